import PyProof.Rows.All
import Wide.All
import OpenK.AllK
import Wide.FinOn
import HandS.Base
import HandS.Call
import HandS.List
import HandS.Comp
import HandS.Codes
import HandS.Words
import HandS.WordsExc
import HandS.Exc
import HandS.Defaults
import HandS.MakeKw
import HandS.Property
import HandS.ClsMeth
import KE.KOpsOwn
import KE.KCallOwn
import OpenK.KOps
import PyProof.TwoTypes
import PyProof.Raises
import PyProof.ReprRoads
import HandS.Wide
import HandS.WideBits
import HandS.IsInst
import HandS.FStr
import HandS.Style
import HandS.Steps
import PyProof.ReprLen
import HandS.Ends
import HandS.HeadEnd
import HandS.HeadNt
import HandS.Head2
import KE.KStateDown
import PySem.Challenge.RW_heardquotes_k11_whole_ratios_reckoned
set_option autoImplicit false
set_option linter.all false
set_option maxRecDepth 100000
set_option maxHeartbeats 1000000
/-! Data readings over HandS: a value is told by data (Dat), a reading evaluates to data. -/
namespace DV
open PySem L2

/-! ### data -/
inductive Dat where
  | non | bl (b : Bool) | int (i : Int) | str (x : Str) | tup (ds : List Dat) | lst (ds : List Dat)
  | ins (C : Addr) (fs : List Str) (ds : List Dat) | dct (ks : List Key) (ds : List Dat) | obj (v : V)
mutual
def Rep (K : PySem.W.Frag) (H : Hp) : Dat → V → Prop
  | .non, v => v = .non
  | .bl b, v => v = .bl b
  | .int i, v => v = .int i
  | .str x, v => v = .str x
  | .obj u, v => v = u
  | .tup ds, v => ∃ a xs, v = .ref a ∧ SqT K H a xs ∧ Reps K H ds xs
  | .lst ds, v => ∃ a xs, v = .ref a ∧ SqL K H a xs ∧ Reps K H ds xs
  | .ins C fs ds, v => ∃ a dx xs, v = .ref a ∧ H a = some (.ins C dx (fs.zip xs)) ∧ fs.length = xs.length ∧ Reps K H ds xs
  | .dct ks ds, v => ∃ a xs, v = .ref a ∧ H a = some (.dK (ks.zip xs)) ∧ ks.length = xs.length ∧ Reps K H ds xs
def Reps (K : PySem.W.Frag) (H : Hp) : List Dat → List V → Prop
  | [], vs => vs = []
  | d :: ds, vs => ∃ v r, vs = v :: r ∧ Rep K H d v ∧ Reps K H ds r
end

def Ex (H H' : Hp) : Prop := ∀ a o, H a = some o → H' a = some o
theorem Ex.refl (H : Hp) : Ex H H := fun _ _ h => h
theorem Ex.trans {H H1 H2 : Hp} (a : Ex H H1) (b : Ex H1 H2) : Ex H H2 := fun x o h => b x o (a x o h)
theorem Ex.new {H : Hp} {p : Addr} {o : HO} (h : H p = none) : Ex H (upd H p o) := fun a u e => by
  rw [upd_ne (ne_of_none e h)]
  exact e
theorem Ex.out {H H' : Hp} {p : Addr} {o : HO} (e : Ex H H') (h : H p = none) : Ex H (upd H' p o) := fun a u ha => by
  rw [upd_ne (ne_of_none ha h)]
  exact e a u ha
theorem Ex.both {G H : Hp} {p : Addr} {o : HO} (e : Ex G H) : Ex (upd G p o) (upd H p o) := fun a u h => by
  by_cases q : a = p
  · subst q; rw [upd_same] at h ⊢; exact h
  · rw [upd_ne q] at h ⊢; exact e a u h
theorem Ex.none_of {H H' : Hp} (e : Ex H H') {p : Addr} (h : H' p = none) : H p = none := by
  cases q : H p with
  | none => rfl
  | some o => rw [e p o q] at h; cases h
section
variable {K : PySem.W.Frag} {H H' : Hp}
theorem ex_rd {a : Addr} {u : HO} (e : Ex H H') (h : Rd H a u) : Rd H' a u := by
  rcases h with h | ⟨o, h⟩
  · exact .inl (e a _ h)
  · exact .inr ⟨o, e a _ h⟩
theorem ex_l {a : Addr} {xs : List V} (e : Ex H H') (h : SqL K H a xs) : SqL K H' a xs := by
  rcases h with h | h
  · exact .inl (ex_rd e h)
  · exact .inr h
theorem ex_t {a : Addr} {xs : List V} (e : Ex H H') (h : SqT K H a xs) : SqT K H' a xs := by
  rcases h with h | h
  · exact .inl (ex_rd e h)
  · exact .inr h
mutual
theorem Rep.mono (e : Ex H H') : ∀ (d : Dat) (v : V), Rep K H d v → Rep K H' d v
  | .non, v, h => h
  | .bl b, v, h => h
  | .int i, v, h => h
  | .str x, v, h => h
  | .obj u, v, h => h
  | .tup ds, v, h => by
    obtain ⟨a, xs, h1, h2, h3⟩ := h
    exact ⟨a, xs, h1, ex_t e h2, Reps.mono e ds xs h3⟩
  | .lst ds, v, h => by
    obtain ⟨a, xs, h1, h2, h3⟩ := h
    exact ⟨a, xs, h1, ex_l e h2, Reps.mono e ds xs h3⟩
  | .ins C fs ds, v, h => by
    obtain ⟨a, dx, xs, h1, h2, h3, h4⟩ := h
    exact ⟨a, dx, xs, h1, e _ _ h2, h3, Reps.mono e ds xs h4⟩
  | .dct ks ds, v, h => by
    obtain ⟨a, xs, h1, h2, h3, h4⟩ := h
    exact ⟨a, xs, h1, e _ _ h2, h3, Reps.mono e ds xs h4⟩
theorem Reps.mono (e : Ex H H') : ∀ (ds : List Dat) (vs : List V), Reps K H ds vs → Reps K H' ds vs
  | [], vs, h => h
  | d :: ds, vs, h => by
    obtain ⟨v, r, h1, h2, h3⟩ := h
    exact ⟨v, r, h1, Rep.mono e d v h2, Reps.mono e ds r h3⟩
end
theorem Reps.len : ∀ {ds : List Dat} {vs : List V}, Reps K H ds vs → vs.length = ds.length
  | [], vs, h => by cases (show vs = [] from h); rfl
  | d :: ds, vs, h => by
    obtain ⟨v, r, rfl, _, h3⟩ := h
    simp only [List.length_cons, Reps.len h3]
theorem Reps.get : ∀ {ds : List Dat} {vs : List V} {i : Nat} {d : Dat}, Reps K H ds vs → ds[i]? = some d → ∃ v, vs[i]? = some v ∧ Rep K H d v
  | [], vs, i, d, h, e => by simp at e
  | x :: ds, vs, 0, d, h, e => by
    obtain ⟨v, r, rfl, h2, _⟩ := h
    simp at e; subst e
    exact ⟨v, rfl, h2⟩
  | x :: ds, vs, i + 1, d, h, e => by
    obtain ⟨v, r, rfl, _, h3⟩ := h
    obtain ⟨u, h4, h5⟩ := Reps.get (i := i) (d := d) h3 (by simpa using e)
    exact ⟨u, by simpa using h4, h5⟩
theorem Reps.back : ∀ {ds : List Dat} {vs : List V} {i : Nat} {v : V}, Reps K H ds vs → vs[i]? = some v → ∃ d, ds[i]? = some d ∧ Rep K H d v
  | [], vs, i, v, h, e => by cases (show vs = [] from h); simp at e
  | x :: ds, vs, 0, v, h, e => by
    obtain ⟨u, r, rfl, h2, _⟩ := h
    simp at e; subst e
    exact ⟨x, rfl, h2⟩
  | x :: ds, vs, i + 1, v, h, e => by
    obtain ⟨u, r, rfl, _, h3⟩ := h
    obtain ⟨d, h4, h5⟩ := Reps.back (i := i) (v := v) h3 (by simpa using e)
    exact ⟨d, by simpa using h4, h5⟩
theorem Reps.app : ∀ {ds es : List Dat} {vs us : List V}, Reps K H ds vs → Reps K H es us → Reps K H (ds ++ es) (vs ++ us)
  | [], es, vs, us, h, h' => by cases (show vs = [] from h); exact h'
  | x :: ds, es, vs, us, h, h' => by
    obtain ⟨v, r, rfl, h2, h3⟩ := h
    exact ⟨v, r ++ us, rfl, h2, Reps.app h3 h'⟩
theorem Reps.one {d : Dat} {v : V} (h : Rep K H d v) : Reps K H [d] [v] := ⟨v, [], rfl, h, rfl⟩
theorem Reps.take : ∀ {ds : List Dat} {vs : List V} (n : Nat), Reps K H ds vs → Reps K H (ds.take n) (vs.take n)
  | [], vs, n, h => by cases (show vs = [] from h); simp [Reps]
  | x :: ds, vs, 0, h => rfl
  | x :: ds, vs, n + 1, h => by
    obtain ⟨v, r, rfl, h2, h3⟩ := h
    exact ⟨v, r.take n, rfl, h2, Reps.take n h3⟩
theorem Reps.drop : ∀ {ds : List Dat} {vs : List V} (n : Nat), Reps K H ds vs → Reps K H (ds.drop n) (vs.drop n)
  | [], vs, n, h => by cases (show vs = [] from h); simp [Reps]
  | x :: ds, vs, 0, h => h
  | x :: ds, vs, n + 1, h => by
    obtain ⟨v, r, rfl, h2, h3⟩ := h
    exact Reps.drop n h3
theorem Reps.rev : ∀ {ds : List Dat} {vs : List V}, Reps K H ds vs → Reps K H ds.reverse vs.reverse
  | [], vs, h => by cases (show vs = [] from h); rfl
  | x :: ds, vs, h => by
    obtain ⟨v, r, rfl, h2, h3⟩ := h
    rw [List.reverse_cons, List.reverse_cons]
    exact (Reps.rev h3).app (Reps.one h2)
theorem Reps.two {a b : Dat} {vs : List V} (h : Reps K H [a, b] vs) : ∃ x y, vs = [x, y] ∧ Rep K H a x ∧ Rep K H b y := by
  obtain ⟨v, r, rfl, h2, v', r', rfl, h3, h4⟩ := h
  cases (show r' = [] from h4)
  exact ⟨_, _, rfl, h2, h3⟩
theorem Reps.only {a : Dat} {vs : List V} (h : Reps K H [a] vs) : ∃ x, vs = [x] ∧ Rep K H a x := by
  obtain ⟨v, r, rfl, h2, h3⟩ := h
  cases (show r = [] from h3)
  exact ⟨_, rfl, h2⟩
theorem Reps.nil_iff {vs : List V} (h : Reps K H [] vs) : vs = [] := h
theorem Reps.ints : ∀ (ns : List Int), Reps K H (ns.map Dat.int) (ns.map V.int)
  | [] => rfl
  | n :: ns => ⟨_, _, rfl, rfl, Reps.ints ns⟩
theorem Reps.ints_of : ∀ {ns : List Int} {vs : List V}, Reps K H (ns.map Dat.int) vs → vs = ns.map V.int
  | [], vs, h => h
  | n :: ns, vs, h => by
    obtain ⟨v, r, rfl, h2, h3⟩ := h
    rw [Reps.ints_of h3, show v = V.int n from h2]
    rfl
end

/-! ### the world: cells that others own -/
structure Wld where
  own : Addr → Prop
  ok : Hp → Prop
  has : ∀ H, ok H → ∀ a, own a → H a ≠ none
  ext : ∀ H H', ok H → Ex H H' → ok H'
  wr : ∀ H p o o', ok H → ¬ own p → H p = some o → (∀ φ, o ≠ .ext φ) → ok (upd H p o')
/-- nothing is owned -/
def Wld.none : Wld := ⟨fun _ => False, fun _ => True, fun _ _ _ h => h.elim, fun _ _ _ _ => trivial, fun _ _ _ _ _ _ _ _ => trivial⟩

/-- what a cell of one's own holds -/
inductive Cell where
  | lst (ds : List Dat) | ins (C dx : Addr) (fs : List Str) (ds : List Dat) | dct (ks : List Key) (ds : List Dat)
def RepC (K : PySem.W.Frag) (G : Hp) : Cell → HO → Prop
  | .lst ds, o => ∃ xs, o = .lst xs ∧ Reps K G ds xs
  | .ins C dx fs ds, o => ∃ xs, o = .ins C dx (fs.zip xs) ∧ fs.length = xs.length ∧ Reps K G ds xs
  | .dct ks ds, o => ∃ xs, o = .dK (ks.zip xs) ∧ ks.length = xs.length ∧ Reps K G ds xs
/-- a cell taken for good -/
def Cell.dat : Cell → Dat
  | .lst ds => .lst ds
  | .ins C _ fs ds => .ins C fs ds
  | .dct ks ds => .dct ks ds
theorem RepC.mono {K : PySem.W.Frag} {G G' : Hp} (e : Ex G G') : ∀ {k : Cell} {o : HO}, RepC K G k o → RepC K G' k o
  | .lst ds, o, ⟨xs, h, r⟩ => ⟨xs, h, r.mono e⟩
  | .ins C dx fs ds, o, ⟨xs, h, l, r⟩ => ⟨xs, h, l, r.mono e⟩
  | .dct ks ds, o, ⟨xs, h, l, r⟩ => ⟨xs, h, l, r.mono e⟩
theorem RepC.good {K : PySem.W.Frag} {G : Hp} {p : Addr} : ∀ {k : Cell} {o : HO}, RepC K G k o → G p = some o → Rep K G k.dat (.ref p)
  | .lst ds, o, ⟨xs, h, r⟩, g => ⟨p, xs, rfl, SqL.of (by rw [g, h]), r⟩
  | .ins C dx fs ds, o, ⟨xs, h, l, r⟩, g => ⟨p, dx, xs, rfl, by rw [g, h], l, r⟩
  | .dct ks ds, o, ⟨xs, h, l, r⟩, g => ⟨p, xs, rfl, by rw [g, h], l, r⟩
theorem RepC.noext {K : PySem.W.Frag} {G : Hp} : ∀ {k : Cell} {o : HO}, RepC K G k o → ∀ φ, o ≠ .ext φ
  | .lst ds, o, ⟨xs, h, r⟩ => fun φ e => by rw [h] at e; cases e
  | .ins C dx fs ds, o, ⟨xs, h, r⟩ => fun φ e => by rw [h] at e; cases e
  | .dct ks ds, o, ⟨xs, h, r⟩ => fun φ e => by rw [h] at e; cases e
abbrev Cells := List (Addr × Cell)
abbrev Sts := List (Option Dat)

/-- G: what stands for good; H: all; the cells at cs hold these lists -/
structure Inn (K : PySem.W.Frag) (W : Wld) (cs : Cells) (G H : Hp) : Prop where
  ex : Ex G H
  ok : W.ok H
  no : ∀ a, W.own a → G a = none
  nd : (cs.map (·.1)).Nodup
  cell : ∀ c ∈ cs, G c.1 = none ∧ ¬ W.own c.1 ∧ ∃ o, H c.1 = some o ∧ RepC K G c.2 o
structure Step (W : Wld) (G H G2 H2 : Hp) : Prop where
  g : Ex G G2
  i : Ex G2 H2
  ok : W.ok H2
  h : ∀ a o, ¬ W.own a → H a = some o → H2 a = some o
  d : ∀ a, H a ≠ none → G a = none → G2 a = none
section
variable {K : PySem.W.Frag} {W : Wld} {cs : Cells} {G H G1 H1 G2 H2 : Hp}
theorem Step.refl (I : Inn K W cs G H) : Step W G H G H := ⟨Ex.refl _, I.ex, I.ok, fun _ _ _ h => h, fun _ _ h => h⟩
theorem Step.refl0 (i : Ex G H) (ok : W.ok H) : Step W G H G H := ⟨Ex.refl _, i, ok, fun _ _ _ h => h, fun _ _ h => h⟩
theorem Step.trans (a : Step W G H G1 H1) (b : Step W G1 H1 G2 H2) : Step W G H G2 H2 := by
  refine ⟨a.g.trans b.g, b.i, b.ok, fun x o n e => b.h x o n (a.h x o n e), fun x hx gx => b.d x ?_ (a.d x hx gx)⟩
  by_cases n : W.own x
  · exact W.has _ a.ok x n
  · cases q : H x with
    | none => exact absurd q hx
    | some o => rw [a.h x o n q]; exact fun z => nomatch z
theorem Step.inn (s : Step W G H G2 H2) (I : Inn K W cs G H) : Inn K W cs G2 H2 := by
  refine ⟨s.i, s.ok, fun a n => s.d a (W.has _ I.ok a n) (I.no a n), I.nd, fun c hc => ?_⟩
  obtain ⟨g, n, xs, h, r⟩ := I.cell c hc
  exact ⟨s.d _ (by rw [h]; exact fun z => nomatch z) g, n, xs, s.h _ _ n h, r.mono s.g⟩
theorem Inn.sub {cs' : Cells} (I : Inn K W cs G H) (nd : (cs'.map (·.1)).Nodup) (h : ∀ c ∈ cs', c ∈ cs) : Inn K W cs' G H :=
  ⟨I.ex, I.ok, I.no, nd, fun c hc => I.cell c (h c hc)⟩
theorem Inn.nil (I : Inn K W cs G H) : Inn K W [] G H := I.sub List.nodup_nil fun _ h => nomatch h
/-- a new object that stands for good -/
theorem Step.new (I : Inn K W cs G H) {p : Addr} {o : HO} (hp : H p = none) : Step W G H (upd G p o) (upd H p o) := by
  refine ⟨Ex.new (I.ex.none_of hp), I.ex.both, W.ext _ _ I.ok (Ex.new hp), fun a u _ e => (Ex.new hp) a u e, fun a ha ga => ?_⟩
  rw [upd_ne (fun z => ha (by rw [z]; exact hp))]
  exact ga
/-- a new object beside -/
theorem Step.aside (I : Inn K W cs G H) {p : Addr} {o : HO} (hp : H p = none) : Step W G H G (upd H p o) :=
  ⟨Ex.refl _, I.ex.out (I.ex.none_of hp), W.ext _ _ I.ok (Ex.new hp), fun a u _ e => (Ex.new hp) a u e, fun _ _ g => g⟩
end

/-! ### variables -/
structure Sig (K : PySem.W.Frag) (G : Hp) (σ : L2.St) (Δ : Sts) : Prop where
  len : σ.length = Δ.length
  at_ : ∀ (i : Nat) (d : Dat), Δ[i]? = some (some d) → ∃ v, σ[i]? = some (some v) ∧ Rep K G d v
section
variable {K : PySem.W.Frag} {G G2 : Hp} {σ : L2.St} {Δ : Sts}
theorem Sig.mono (s : Sig K G σ Δ) (e : Ex G G2) : Sig K G2 σ Δ := ⟨s.len, fun i d h => let ⟨v, h1, h2⟩ := s.at_ i d h; ⟨v, h1, h2.mono e⟩⟩
theorem Sig.set (s : Sig K G σ Δ) {i : Nat} {d : Dat} {v : V} (r : Rep K G d v) : Sig K G (σ.set i (some v)) (Δ.set i (some d)) := by
  refine ⟨by rw [List.length_set, List.length_set, s.len], fun j e h => ?_⟩
  by_cases q : i = j
  · subst q
    by_cases l : i < Δ.length
    · rw [List.getElem?_set_self l] at h
      cases h
      exact ⟨v, List.getElem?_set_self (by rw [s.len]; exact l), r⟩
    · rw [List.getElem?_eq_none (by rw [List.length_set]; omega)] at h
      cases h
  · rw [List.getElem?_set_ne q] at h ⊢
    exact s.at_ j e h
theorem Sig.re (s : Sig K G σ Δ) {i : Nat} {d : Dat} {v : V} (h : σ[i]? = some (some v)) (r : Rep K G d v) : Sig K G σ (Δ.set i (some d)) := by
  refine ⟨by rw [List.length_set, s.len], fun j e q => ?_⟩
  by_cases z : i = j
  · subst z
    by_cases l : i < Δ.length
    · rw [List.getElem?_set_self l] at q
      cases q
      exact ⟨v, h, r⟩
    · rw [List.getElem?_eq_none (by rw [List.length_set]; omega)] at q
      cases q
  · rw [List.getElem?_set_ne z] at q
    exact s.at_ j e q
theorem Sig.forget (s : Sig K G σ Δ) (i : Nat) (v : Option V) : Sig K G (σ.set i v) (Δ.set i none) := by
  refine ⟨by rw [List.length_set, List.length_set, s.len], fun j e h => ?_⟩
  by_cases q : i = j
  · subst q
    by_cases l : i < Δ.length
    · rw [List.getElem?_set_self l] at h; cases h
    · rw [List.getElem?_eq_none (by rw [List.length_set]; omega)] at h
      cases h
  · rw [List.getElem?_set_ne q] at h ⊢
    exact s.at_ j e h
/-- a weaker knowledge -/
theorem Sig.weak {Δ' : Sts} (s : Sig K G σ Δ) (hl : Δ'.length = Δ.length) (h : ∀ (i : Nat) (d : Dat), Δ'[i]? = some (some d) → Δ[i]? = some (some d)) : Sig K G σ Δ' :=
  ⟨s.len.trans hl.symm, fun i d e => s.at_ i d (h i d e)⟩
end

/-! ### exceptions -/
structure Exc where
  cls : Addr
  ns : List Str
  ds : List Dat
def RepX (K : PySem.W.Frag) (G H : Hp) (x : Exc) (c : Value) (d : Option Addr) : Prop :=
  c = .ref x.cls ∧ ((x.ns = [] ∧ d = none) ∨ ∃ a xs, d = some a ∧ H a = some (.xd (x.ns.zip xs)) ∧ x.ns.length = xs.length ∧ Reps K G x.ds xs)

/-- what is around: the written part, the world, what is wanted of an exception, which exceptions -/
structure Ct where
  K : PySem.W.Frag
  W : Wld
  E : XK
  X : Exc → Prop

def Raises (c : Ct) (G H : Hp) : Prop := ∀ x cls dd G2 H2, c.X x → Step c.W G H G2 H2 → RepX c.K G2 H2 x cls dd → c.E cls dd H2
theorem Raises.on {c : Ct} {G H G1 H1 : Hp} (r : Raises c G H) (s : Step c.W G H G1 H1) : Raises c G1 H1 := fun x cls dd G2 H2 hx s2 hr => r x cls dd G2 H2 hx (s.trans s2) hr

/-! ### what evaluates to what -/
def EVP (c : Ct) (cs : Cells) (Δ : Sts) (te : TE) (P : Dat → Prop) : Prop :=
  ∀ σ G H, Sig c.K G σ Δ → Inn c.K c.W cs G H → Raises c G H → ∀ Q : VK, (∀ d v G2 H2, P d → Step c.W G H G2 H2 → Rep c.K G2 d v → Q v H2) → te σ H Q
abbrev EVD (c : Ct) (cs : Cells) (Δ : Sts) (te : TE) (d : Dat) : Prop := EVP c cs Δ te fun x => x = d
def EVB (c : Ct) (cs : Cells) (Δ : Sts) (tt : TT) (P : Bool → Prop) : Prop :=
  ∀ σ G H, Sig c.K G σ Δ → Inn c.K c.W cs G H → Raises c G H → ∀ Q : Bool → Hp → Prop, (∀ b G2 H2, P b → Step c.W G H G2 H2 → Q b H2) → tt σ H Q
abbrev EVT (c : Ct) (cs : Cells) (Δ : Sts) (tt : TT) (b : Bool) : Prop := EVB c cs Δ tt fun x => x = b
def EVA (c : Ct) (cs : Cells) (Δ : Sts) (ta : TA) (P : List Dat → Prop) : Prop :=
  ∀ σ G H, Sig c.K G σ Δ → Inn c.K c.W cs G H → Raises c G H → ∀ Q : List V → Hp → Prop, (∀ ds vs G2 H2, P ds → Step c.W G H G2 H2 → Reps c.K G2 ds vs → Q vs H2) → ta σ H Q
abbrev EVL (c : Ct) (cs : Cells) (Δ : Sts) (ta : TA) (ds : List Dat) : Prop := EVA c cs Δ ta fun x => x = ds
/-- a new list, not yet for good -/
def EVN (c : Ct) (cs : Cells) (Δ : Sts) (te : TE) (P : List Dat → Prop) : Prop :=
  ∀ σ G H, Sig c.K G σ Δ → Inn c.K c.W cs G H → Raises c G H → ∀ Q : VK, (∀ ds p xs G2 H2, P ds → H p = none → G2 p = none → ¬ c.W.own p → Step c.W G H G2 H2 → H2 p = some (.lst xs) → Reps c.K G2 ds xs → Q (.ref p) H2) → te σ H Q
/-- operations on values -/
def ROP (c : Ct) (cs : Cells) (r : R2) (a b : Dat) (P : Dat → Prop) : Prop :=
  ∀ G H x y, Inn c.K c.W cs G H → Raises c G H → Rep c.K G a x → Rep c.K G b y → ∀ Q : VK, (∀ d v G2 H2, P d → Step c.W G H G2 H2 → Rep c.K G2 d v → Q v H2) → r x y H Q
abbrev ROD (c : Ct) (cs : Cells) (r : R2) (a b d : Dat) : Prop := ROP c cs r a b fun x => x = d
def RUP (c : Ct) (cs : Cells) (r : V → Hp → VK → Prop) (a : Dat) (P : Dat → Prop) : Prop :=
  ∀ G H x, Inn c.K c.W cs G H → Raises c G H → Rep c.K G a x → ∀ Q : VK, (∀ d v G2 H2, P d → Step c.W G H G2 H2 → Rep c.K G2 d v → Q v H2) → r x H Q
def RCP (c : Ct) (cs : Cells) (r : List V → Hp → VK → Prop) (as : List Dat) (P : Dat → Prop) : Prop :=
  ∀ G H xs, Inn c.K c.W cs G H → Raises c G H → Reps c.K G as xs → ∀ Q : VK, (∀ d v G2 H2, P d → Step c.W G H G2 H2 → Rep c.K G2 d v → Q v H2) → r xs H Q
abbrev RCD (c : Ct) (cs : Cells) (r : List V → Hp → VK → Prop) (as : List Dat) (d : Dat) : Prop := RCP c cs r as fun x => x = d

section
variable {c : Ct} {cs : Cells} {Δ : Sts} {te ta tb tl : TE} {P : Dat → Prop} {d a b e : Dat} {r : R2}
theorem EVP.imp {P' : Dat → Prop} (h : EVP c cs Δ te P) (w : ∀ d, P d → P' d) : EVP c cs Δ te P' := fun σ G H s I R Q q => h σ G H s I R Q fun d v G2 H2 p => q d v G2 H2 (w d p)
theorem EVD.to {d' : Dat} (h : EVD c cs Δ te d) (e : d = d') : EVD c cs Δ te d' := e ▸ h
theorem ev_var {i : Nat} (h : Δ[i]? = some (some d)) : EVD c cs Δ (tVar i) d := fun σ G H s I R Q q => by
  obtain ⟨v, h1, h2⟩ := s.at_ i d h
  exact ⟨v, h1, q d v G H rfl (Step.refl I) h2⟩
theorem ev_c {v : V} (h : ∀ K G, Rep K G d v) : EVD c cs Δ (tC v) d := fun σ G H s I R Q q => q d v G H rfl (Step.refl I) (h _ _)
theorem ev_int {i : Int} : EVD c cs Δ (tC (.int i)) (.int i) := ev_c fun _ _ => rfl
theorem ev_str {x : Str} : EVD c cs Δ (tC (.str x)) (.str x) := ev_c fun _ _ => rfl
theorem ev_bl {x : Bool} : EVD c cs Δ (tC (.bl x)) (.bl x) := ev_c fun _ _ => rfl
theorem ev_non : EVD c cs Δ (tC .non) .non := ev_c fun _ _ => rfl
theorem ev_obj {v : V} : EVD c cs Δ (tC v) (.obj v) := ev_c fun _ _ => rfl
theorem evp_op {Pa : Dat → Prop} {Pb : Dat → Dat → Prop} (ha : EVP c cs Δ ta Pa) (hb : ∀ a, Pa a → EVP c cs Δ tb (Pb a)) (hr : ∀ a b, Pa a → Pb a b → ROP c cs r a b P) : EVP c cs Δ (tOp r ta tb) P := fun σ G H s I R Q q =>
  ha σ G H s I R _ fun a x G1 H1 pa s1 ra => hb a pa σ G1 H1 (s.mono s1.g) (s1.inn I) (R.on s1) _ fun b y G2 H2 pb s2 rb =>
    hr a b pa pb G2 H2 x y (s2.inn (s1.inn I)) ((R.on s1).on s2) (ra.mono s2.g) rb Q fun d v G3 H3 pd s3 rd => q d v G3 H3 pd ((s1.trans s2).trans s3) rd
theorem ev_op (ha : EVD c cs Δ ta a) (hb : EVD c cs Δ tb b) (hr : ROP c cs r a b P) : EVP c cs Δ (tOp r ta tb) P :=
  evp_op ha (fun _ _ => hb) fun _ _ e1 e2 => by subst e1 e2; exact hr
theorem evp_un {Pa : Dat → Prop} {r : V → Hp → VK → Prop} (ha : EVP c cs Δ ta Pa) (hr : ∀ a, Pa a → RUP c cs r a P) : EVP c cs Δ (tUn r ta) P := fun σ G H s I R Q q =>
  ha σ G H s I R _ fun a x G1 H1 pa s1 ra => hr a pa G1 H1 x (s1.inn I) (R.on s1) ra Q fun d v G3 H3 pd s3 rd => q d v G3 H3 pd (s1.trans s3) rd
theorem ev_un {r : V → Hp → VK → Prop} (ha : EVD c cs Δ ta a) (hr : RUP c cs r a P) : EVP c cs Δ (tUn r ta) P := evp_un ha fun _ e => by subst e; exact hr
/-! tests -/
variable {tt uu : TT} {p q : Bool}
theorem et_test {Pb : Bool → Prop} (h : EVP c cs Δ te fun d => ∃ b, d = .bl b ∧ Pb b) : EVB c cs Δ (tTest te) Pb := fun σ G H s I R Q q =>
  h σ G H s I R _ fun d v G2 H2 ⟨b, e, pb⟩ s2 rd => by
    subst e
    exact ⟨b, rd, q b G2 H2 pb s2⟩
theorem et_B {Pb : Bool → Prop} (h : EVP c cs Δ te fun d => ∃ b, d = .bl b ∧ Pb b) : EVB c cs Δ (tB te) Pb := fun σ G H s I R Q q =>
  h σ G H s I R _ fun d v G2 H2 ⟨b, e, pb⟩ s2 rd => by
    subst e
    exact ⟨b, rd, q b G2 H2 pb s2⟩
theorem et_testD (h : EVD c cs Δ te (.bl p)) : EVT c cs Δ (tTest te) p := et_test (h.imp fun d e => ⟨p, e, rfl⟩)
theorem et_BD (h : EVD c cs Δ te (.bl p)) : EVT c cs Δ (tB te) p := et_B (h.imp fun d e => ⟨p, e, rfl⟩)
theorem EVT.to (h : EVT c cs Δ tt p) (e : p = q) : EVT c cs Δ tt q := e ▸ h
theorem et_and (h1 : EVT c cs Δ tt p) (h2 : p = true → EVT c cs Δ uu q) : EVT c cs Δ (tAnd tt uu) (p && q) := fun σ G H s I R Q k =>
  h1 σ G H s I R _ fun b G1 H1 e s1 => by
    subst e
    cases b with
    | true => exact h2 rfl σ G1 H1 (s.mono s1.g) (s1.inn I) (R.on s1) Q fun b G2 H2 e s2 => k b G2 H2 e (s1.trans s2)
    | false => exact k false G1 H1 rfl s1
theorem et_or (h1 : EVT c cs Δ tt p) (h2 : p = false → EVT c cs Δ uu q) : EVT c cs Δ (tOr tt uu) (p || q) := fun σ G H s I R Q k =>
  h1 σ G H s I R _ fun b G1 H1 e s1 => by
    subst e
    cases b with
    | true => exact k true G1 H1 rfl s1
    | false => exact h2 rfl σ G1 H1 (s.mono s1.g) (s1.inn I) (R.on s1) Q fun b G2 H2 e s2 => k b G2 H2 e (s1.trans s2)
theorem et_not (h1 : EVT c cs Δ tt p) : EVT c cs Δ (tNot tt) (!p) := fun σ G H s I R Q k =>
  h1 σ G H s I R _ fun b G1 H1 e s1 => by
    subst e
    exact k _ G1 H1 rfl s1
theorem ev_andV (h1 : EVD c cs Δ ta (.bl p)) (h2 : p = true → EVD c cs Δ tb (.bl q)) : EVD c cs Δ (tAndV ta tb) (.bl (p && q)) := fun σ G H s I R Q k =>
  h1 σ G H s I R _ fun d v G1 H1 e s1 rd => by
    subst e
    refine ⟨p, rd, ?_⟩
    cases p with
    | true => exact h2 rfl σ G1 H1 (s.mono s1.g) (s1.inn I) (R.on s1) Q fun b v G2 H2 e s2 => k b v G2 H2 e (s1.trans s2)
    | false => exact k _ _ G1 H1 rfl s1 rfl
theorem ev_orV (h1 : EVD c cs Δ ta (.bl p)) (h2 : p = false → EVD c cs Δ tb (.bl q)) : EVD c cs Δ (tOrV ta tb) (.bl (p || q)) := fun σ G H s I R Q k =>
  h1 σ G H s I R _ fun d v G1 H1 e s1 rd => by
    subst e
    refine ⟨p, rd, ?_⟩
    cases p with
    | true => exact k _ _ G1 H1 rfl s1 rfl
    | false => exact h2 rfl σ G1 H1 (s.mono s1.g) (s1.inn I) (R.on s1) Q fun b v G2 H2 e s2 => k b v G2 H2 e (s1.trans s2)
theorem ev_notV (h1 : EVD c cs Δ ta (.bl p)) : EVD c cs Δ (tNotV ta) (.bl (!p)) := fun σ G H s I R Q k =>
  h1 σ G H s I R _ fun d v G1 H1 e s1 rd => by
    subst e
    exact ⟨p, rd, k _ _ G1 H1 rfl s1 rfl⟩
theorem evp_if {Pb : Bool → Prop} (h : EVB c cs Δ tt Pb) (h1 : Pb true → EVP c cs Δ ta P) (h2 : Pb false → EVP c cs Δ tb P) : EVP c cs Δ (tIf tt ta tb) P := fun σ G H s I R Q k =>
  h σ G H s I R _ fun b G1 H1 e s1 => by
    cases b with
    | true => exact h1 e σ G1 H1 (s.mono s1.g) (s1.inn I) (R.on s1) Q fun b v G2 H2 e s2 => k b v G2 H2 e (s1.trans s2)
    | false => exact h2 e σ G1 H1 (s.mono s1.g) (s1.inn I) (R.on s1) Q fun b v G2 H2 e s2 => k b v G2 H2 e (s1.trans s2)
theorem ev_if (h : EVT c cs Δ tt p) (h1 : p = true → EVP c cs Δ ta P) (h2 : p = false → EVP c cs Δ tb P) : EVP c cs Δ (tIf tt ta tb) P :=
  evp_if h (fun e => h1 e.symm) (fun e => h2 e.symm)
/-! argument lists -/
variable {tr : TA} {ds : List Dat} {PA : List Dat → Prop}
theorem ea_nil : EVL c cs Δ tNil [] := fun σ G H s I R Q k => k [] [] G H rfl (Step.refl I) rfl
theorem eap_cons {Pa : Dat → Prop} {Pr : Dat → List Dat → Prop} (h : EVP c cs Δ ta Pa) (hr : ∀ d, Pa d → EVA c cs Δ tr (Pr d)) : EVA c cs Δ (tCons ta tr) (fun l => ∃ d ds, l = d :: ds ∧ Pa d ∧ Pr d ds) := fun σ G H s I R Q k =>
  h σ G H s I R _ fun d v G1 H1 pd s1 rd => hr d pd σ G1 H1 (s.mono s1.g) (s1.inn I) (R.on s1) _ fun ds vs G2 H2 pds s2 rds =>
    k (d :: ds) (v :: vs) G2 H2 ⟨d, ds, rfl, pd, pds⟩ (s1.trans s2) ⟨v, vs, rfl, rd.mono s2.g, rds⟩
theorem ea_cons (h : EVD c cs Δ ta d) (hr : EVL c cs Δ tr ds) : EVL c cs Δ (tCons ta tr) (d :: ds) := fun σ G H s I R Q k =>
  eap_cons (Pr := fun _ x => x = ds) h (fun _ _ => hr) σ G H s I R Q fun l vs G2 H2 ⟨d', ds', e, e1, e2⟩ => by
    subst e1 e2
    exact k l vs G2 H2 e
theorem EVA.imp {P' : List Dat → Prop} (h : EVA c cs Δ tr PA) (w : ∀ d, PA d → P' d) : EVA c cs Δ tr P' := fun σ G H s I R Q q => h σ G H s I R Q fun d v G2 H2 p => q d v G2 H2 (w d p)
/-! displays -/
theorem evp_tup {PA : List Dat → Prop} (h : EVA c cs Δ tr PA) (hl : ∀ ds, PA ds → ds.length ≤ 100000) : EVP c cs Δ (tTup tr) (fun d => ∃ ds, d = .tup ds ∧ PA ds) := fun σ G H s I R Q k =>
  h σ G H s I R _ fun ds vs G1 H1 pa s1 rs => by
    refine ⟨Nat.le_trans (by rw [rs.len]; exact hl ds pa) (by decide), fun p hp => ?_⟩
    have n := Step.new (s1.inn I) (o := .tup vs) hp
    exact k (.tup ds) _ _ _ ⟨ds, rfl, pa⟩ (s1.trans n) ⟨p, vs, rfl, SqT.of upd_same, rs.mono n.g⟩
theorem ev_tup (h : EVL c cs Δ tr ds) (hl : ds.length ≤ 100000 := by decide) : EVD c cs Δ (tTup tr) (.tup ds) := (evp_tup h (fun _ e => by subst e; exact hl)).imp fun d ⟨ds', e, e'⟩ => by subst e'; exact e
theorem en_lst {PA : List Dat → Prop} (h : EVA c cs Δ tr PA) (hl : ∀ ds, PA ds → ds.length ≤ 100000) : EVN c cs Δ (tLst tr) PA := fun σ G H s I R Q k =>
  h σ G H s I R _ fun ds vs G1 H1 pa s1 rs => by
    refine ⟨Nat.le_trans (by rw [rs.len]; exact hl ds pa) (by decide), fun p hp => ?_⟩
    have I1 := s1.inn I
    have n := Step.aside I1 (o := .lst vs) hp
    have no : ¬ c.W.own p := fun z => c.W.has _ I1.ok p z hp
    have hp0 : H p = none := by
      cases q : H p with
      | none => rfl
      | some o => rw [s1.h p o no q] at hp; cases hp
    exact k ds p vs G1 _ pa hp0 (I1.ex.none_of hp) no (s1.trans n) upd_same rs
/-- a new list taken for good -/
theorem EVN.good {PA : List Dat → Prop} (h : EVN c cs Δ te PA) : EVP c cs Δ te (fun d => ∃ ds, d = .lst ds ∧ PA ds) := fun σ G H s I R Q k =>
  h σ G H s I R Q fun ds p xs G1 H1 pa hp gp no s1 hx rs => by
    have g2 : Ex G1 (upd G1 p (.lst xs)) := Ex.new gp
    refine k (.lst ds) _ (upd G1 p (.lst xs)) H1 ⟨ds, rfl, pa⟩ ⟨s1.g.trans g2, fun a o e => ?_, s1.ok, s1.h, fun a ha ga => ?_⟩ ⟨p, xs, rfl, SqL.of upd_same, rs.mono g2⟩
    · by_cases q : a = p
      · subst q; rw [upd_same] at e; cases e; exact hx
      · rw [upd_ne q] at e; exact s1.i a o e
    · rw [upd_ne (fun z => ha (by rw [z]; exact hp))]
      exact s1.d a ha ga
theorem EVN.goodD (h : EVN c cs Δ te fun x => x = ds) : EVD c cs Δ te (.lst ds) := h.good.imp fun d ⟨ds', e, e'⟩ => by subst e'; exact e
theorem EVN.imp {P P' : List Dat → Prop} (h : EVN c cs Δ te P) (w : ∀ d, P d → P' d) : EVN c cs Δ te P' := fun σ G H s I R Q q => h σ G H s I R Q fun ds p xs G2 H2 pd => q ds p xs G2 H2 (w ds pd)
theorem ev_lst (h : EVL c cs Δ tr ds) (hl : ds.length ≤ 100000 := by decide) : EVD c cs Δ (tLst tr) (.lst ds) := (en_lst h (fun _ e => by subst e; exact hl)).goodD
/-! built-ins by values -/
theorem evp_cb {r : List V → Hp → VK → Prop} (h : EVA c cs Δ tr PA) (hr : ∀ ds, PA ds → RCP c cs r ds P) : EVP c cs Δ (tCB r tr) P := fun σ G H s I R Q k =>
  h σ G H s I R _ fun ds vs G1 H1 pa s1 rs => hr ds pa G1 H1 vs (s1.inn I) (R.on s1) rs Q fun d v G2 H2 pd s2 => k d v G2 H2 pd (s1.trans s2)
theorem ev_cb {r : List V → Hp → VK → Prop} (h : EVL c cs Δ tr ds) (hr : RCP c cs r ds P) : EVP c cs Δ (tCB r tr) P := evp_cb h fun _ e => by subst e; exact hr
end
end DV

set_option autoImplicit false
set_option linter.all false
set_option maxRecDepth 100000
set_option maxHeartbeats 1000000
namespace DV
open PySem L2

/-! ### statements -/
/-- behind an entry (G0, H0): where one stands now -/
structure Cur (c : Ct) (cs : Cells) (F G0 H0 G H : Hp) : Prop where
  fl : Ex F G
  st : Step c.W G0 H0 G H
  inn : Inn c.K c.W cs G H
  fr : ∀ x ∈ cs, H0 x.1 = none
section
variable {c : Ct} {cs : Cells} {F G0 H0 G H G2 H2 : Hp}
theorem Cur.on (u : Cur c cs F G0 H0 G H) (s : Step c.W G H G2 H2) : Cur c cs F G0 H0 G2 H2 := ⟨u.fl.trans s.g, u.st.trans s, s.inn u.inn, u.fr⟩
end
abbrev NxT := Cells → Sts → Prop
/-- what is promised behind a statement: the answers, what follows, a break, a continue -/
structure Po where
  ret : Dat → Prop
  nx : NxT
  bk : NxT := fun _ _ => False
  ct : NxT := fun _ _ => False
/-- the ends that a promise asks for (F: what stood for good ahead still does) -/
structure EndsOk (c : Ct) (F G0 H0 : Hp) (p : Po) (D : Ends) : Prop where
  ret : ∀ d v G2 H2, p.ret d → Step c.W G0 H0 G2 H2 → Rep c.K G2 d v → D.rt v H2
  nx : ∀ cs Δ σ G H, p.nx cs Δ → Cur c cs F G0 H0 G H → Sig c.K G σ Δ → D.nx σ H
  bk : ∀ cs Δ σ G H, p.bk cs Δ → Cur c cs F G0 H0 G H → Sig c.K G σ Δ → D.bk σ H
  ct : ∀ cs Δ σ G H, p.ct cs Δ → Cur c cs F G0 H0 G H → Sig c.K G σ Δ → D.ct σ H
def STS (c : Ct) (cs : Cells) (Δ : Sts) (t : TS) (p : Po) : Prop :=
  ∀ F G0 H0 σ G H D, Cur c cs F G0 H0 G H → Sig c.K G σ Δ → Raises c G0 H0 → EndsOk c F G0 H0 p D → t D σ H
/-- a target is given the data d: the names at is hold something new, as Δ' tells -/
def GTP (c : Ct) (Δ : Sts) (g : TG) (d : Dat) (Δ' : Sts) (is : List Nat) : Prop :=
  ∀ σ G H v, Ex G H → Sig c.K G σ Δ → Rep c.K G d v → ∀ Q : L2.St → Hp → Prop, (∀ σ', Sig c.K G σ' Δ' → σ'.length = σ.length → (∀ i, i ∉ is → σ'[i]? = σ[i]?) → Q σ' H) → g v σ H Q
def GTPs (c : Ct) (Δ : Sts) (g : TGs) (ds : List Dat) (Δ' : Sts) (is : List Nat) : Prop :=
  ∀ σ G H vs, Ex G H → Sig c.K G σ Δ → Reps c.K G ds vs → ∀ Q : L2.St → Hp → Prop, (∀ σ', Sig c.K G σ' Δ' → σ'.length = σ.length → (∀ i, i ∉ is → σ'[i]? = σ[i]?) → Q σ' H) → g vs σ H Q

/-- knows no more than -/
def Le (Δ' Δ : Sts) : Prop := Δ'.length = Δ.length ∧ ∀ (i : Nat) (d : Dat), Δ'[i]? = some (some d) → Δ[i]? = some (some d)
theorem Le.refl (Δ : Sts) : Le Δ Δ := ⟨rfl, fun _ _ h => h⟩
theorem Le.nil : Le [] [] := Le.refl _
theorem Le.none {Δ' Δ : Sts} {o : Option Dat} (h : Le Δ' Δ) : Le (Option.none :: Δ') (o :: Δ) := ⟨by simp [h.1], fun i d e => by
  cases i with
  | zero => simp at e
  | succ i => simpa using h.2 i d (by simpa using e)⟩
theorem Le.same {Δ' Δ : Sts} {o : Option Dat} (h : Le Δ' Δ) : Le (o :: Δ') (o :: Δ) := ⟨by simp [h.1], fun i d e => by
  cases i with
  | zero => simpa using e
  | succ i => simpa using h.2 i d (by simpa using e)⟩

section
variable {c : Ct} {cs cs' : Cells} {Δ Δ' : Sts} {t u : TS} {p : Po} {te ta tb : TE} {tt : TT} {P : Dat → Prop} {Pb : Bool → Prop} {d a b : Dat} {g : TG} {N : NxT} {i j : Nat}
theorem STS.weak (h : STS c cs Δ' t p) (l : Le Δ' Δ) : STS c cs Δ t p := fun F G0 H0 σ G H D u s R e => h F G0 H0 σ G H D u (s.weak l.1 l.2) R e
theorem STS.cells (h : STS c cs' Δ t p) (nd : (cs.map (·.1)).Nodup → (cs'.map (·.1)).Nodup) (l : ∀ x ∈ cs', x ∈ cs) : STS c cs Δ t p := fun F G0 H0 σ G H D u s R e =>
  h F G0 H0 σ G H D ⟨u.fl, u.st, u.inn.sub (nd u.inn.nd) l, fun x hx => u.fr x (l x hx)⟩ s R e
theorem STS.imp {p' : Po} (h : STS c cs Δ t p) (a : ∀ d, p.ret d → p'.ret d) (b : ∀ cs Δ, p.nx cs Δ → p'.nx cs Δ) (e : ∀ cs Δ, p.bk cs Δ → p'.bk cs Δ) (f : ∀ cs Δ, p.ct cs Δ → p'.ct cs Δ) : STS c cs Δ t p' := fun F G0 H0 σ G H D u s R k =>
  h F G0 H0 σ G H D u s R ⟨fun d v G2 H2 x => k.ret d v G2 H2 (a d x), fun cs Δ σ G H x => k.nx cs Δ σ G H (b _ _ x), fun cs Δ σ G H x => k.bk cs Δ σ G H (e _ _ x), fun cs Δ σ G H x => k.ct cs Δ σ G H (f _ _ x)⟩
theorem s_seq {M : NxT} (h1 : STS c cs Δ t { p with nx := M }) (h2 : ∀ cs' Δ', M cs' Δ' → STS c cs' Δ' u p) : STS c cs Δ (tSeq t u) p := fun F G0 H0 σ G H D cu s R k =>
  h1 F G0 H0 σ G H { D with nx := u D } cu s R ⟨k.ret, fun cs' Δ' σ' G' H' m cu' s' => h2 cs' Δ' m F G0 H0 σ' G' H' D cu' s' R k, k.bk, k.ct⟩
theorem s_next (h : p.nx cs Δ') (l : Le Δ' Δ) : STS c cs Δ tNext p := fun F G0 H0 σ G H D cu s R k => k.nx cs Δ' σ G H h cu (s.weak l.1 l.2)
theorem s_break (h : p.bk cs Δ') (l : Le Δ' Δ) : STS c cs Δ tBreak p := fun F G0 H0 σ G H D cu s R k => k.bk cs Δ' σ G H h cu (s.weak l.1 l.2)
theorem s_cont (h : p.ct cs Δ') (l : Le Δ' Δ) : STS c cs Δ tCont p := fun F G0 H0 σ G H D cu s R k => k.ct cs Δ' σ G H h cu (s.weak l.1 l.2)
theorem q_next (h : STS c cs Δ u p) : STS c cs Δ (tSeq tNext u) p := h
/-! targets -/
theorem g_name : GTP c Δ (gName i) d (Δ.set i (some d)) [i] := fun σ G H v _ s r Q k => k _ (s.set r) List.length_set fun j hj => List.getElem?_set_ne (by simpa using fun e => hj (by simp [e]))
theorem gs_nil : GTPs c Δ gNil [] Δ [] := fun σ G H vs _ s r Q k => ⟨r, k _ s rfl fun _ _ => rfl⟩
theorem gs_cons {gs : TGs} {ds : List Dat} {Δ1 Δ2 : Sts} {is js : List Nat} (h : GTP c Δ g d Δ1 is) (hs : GTPs c Δ1 gs ds Δ2 js) : GTPs c Δ (gCons g gs) (d :: ds) Δ2 (is ++ js) := by
  intro σ G H vs e s r Q k
  obtain ⟨v, vr, rfl, r1, r2⟩ := r
  refine ⟨v, vr, rfl, h σ G H v e s r1 _ fun σ1 s1 l1 e1 => hs σ1 G H vr e s1 r2 Q fun σ2 s2 l2 e2 => k σ2 s2 (l2.trans l1) fun x hx => ?_⟩
  rw [List.mem_append, not_or] at hx
  rw [e2 x hx.2, e1 x hx.1]
theorem g_tup {n : Nat} {gs : TGs} {ds : List Dat} {Δ1 : Sts} {is : List Nat} (h : GTPs c Δ gs ds Δ1 is) (hn : ds.length = n := by rfl) : GTP c Δ (gTup c.K n gs) (.tup ds) Δ1 is := by
  intro σ G H v e s r Q k
  obtain ⟨a, xs, rfl, hq, rs⟩ := r
  exact ⟨a, xs, rfl, ex_t e hq, rs.len.trans hn, h σ G H xs e s rs Q k⟩
/-- a, b = a tuple of two names, three, four -/
theorem g_two : GTP c Δ (gTup c.K 2 (gCons (gName i) (gCons (gName j) gNil))) (.tup [a, b]) ((Δ.set i (some a)).set j (some b)) ([i] ++ ([j] ++ [])) := g_tup (gs_cons g_name (gs_cons g_name gs_nil))
theorem s_asgG {Δf : Dat → Sts} {is : List Nat} (h : EVP c cs Δ te P) (hg : ∀ d, P d → GTP c Δ g d (Δf d) is) (k : ∀ d, P d → p.nx cs (Δf d)) : STS c cs Δ (tAsg te g) p := fun F G0 H0 σ G H D cu s R e =>
  h σ G H s cu.inn (R.on cu.st) _ fun d v G2 H2 pd s2 rd => hg d pd σ G2 H2 v s2.i (s.mono s2.g) rd _ fun σ' s' _ _ => e.nx _ _ _ _ _ (k d pd) (cu.on s2) s'
theorem s_asg (h : EVP c cs Δ te P) (k : ∀ d, P d → p.nx cs (Δ.set i (some d))) : STS c cs Δ (tAsg te (gName i)) p := s_asgG h (fun d pd => g_name) k
theorem q_asgP (h : EVP c cs Δ te P) (k : ∀ d, P d → STS c cs (Δ.set i (some d)) u p) : STS c cs Δ (tSeq (tAsg te (gName i)) u) p :=
  s_seq (M := fun cs' Δ' => ∃ d, P d ∧ cs' = cs ∧ Δ' = Δ.set i (some d)) (s_asg h fun d pd => ⟨d, pd, rfl, rfl⟩) fun cs' Δ' ⟨d, pd, e1, e2⟩ => by subst e1 e2; exact k d pd
theorem q_asg (h : EVD c cs Δ te d) (k : STS c cs (Δ.set i (some d)) u p) : STS c cs Δ (tSeq (tAsg te (gName i)) u) p := q_asgP h fun d e => by subst e; exact k
/-- a target of any form, the data known -/
theorem q_asgT {Δ1 : Sts} {is : List Nat} (h : EVD c cs Δ te d) (hg : GTP c Δ g d Δ1 is) (k : STS c cs Δ1 u p) : STS c cs Δ (tSeq (tAsg te g) u) p :=
  s_seq (M := fun cs' Δ' => cs' = cs ∧ Δ' = Δ1) (s_asgG (Δf := fun _ => Δ1) (is := is) h (fun d e => by cases e; exact hg) fun _ _ => ⟨rfl, rfl⟩) fun cs' Δ' ⟨e1, e2⟩ => by subst e1 e2; exact k
theorem q_asgTP {Δf : Dat → Sts} {is : List Nat} (h : EVP c cs Δ te P) (hg : ∀ d, P d → GTP c Δ g d (Δf d) is) (k : ∀ d, P d → STS c cs (Δf d) u p) : STS c cs Δ (tSeq (tAsg te g) u) p :=
  s_seq (M := fun cs' Δ' => ∃ d, P d ∧ cs' = cs ∧ Δ' = Δf d) (s_asgG h hg fun d pd => ⟨d, pd, rfl, rfl⟩) fun cs' Δ' ⟨d, pd, e1, e2⟩ => by subst e1 e2; exact k d pd
theorem q_par {ta : TA} (h : EVL c cs Δ ta [a, b]) (k : STS c cs ((Δ.set i (some a)).set j (some b)) u p) : STS c cs Δ (tSeq (tPar i j ta) u) p := fun F G0 H0 σ G H D cu s R e =>
  h σ G H s cu.inn (R.on cu.st) _ fun ds vs G2 H2 pd s2 rd => by
    subst pd
    obtain ⟨x, y, rfl, r1, r2⟩ := rd.two
    exact ⟨x, y, rfl, k F G0 H0 _ G2 H2 D (cu.on s2) (((s.mono s2.g).set r1).set r2) R e⟩
theorem s_par {ta : TA} (h : EVL c cs Δ ta [a, b]) (k : p.nx cs ((Δ.set i (some a)).set j (some b))) : STS c cs Δ (tPar i j ta) p := fun F G0 H0 σ G H D cu s R e =>
  h σ G H s cu.inn (R.on cu.st) _ fun ds vs G2 H2 pd s2 rd => by
    subst pd
    obtain ⟨x, y, rfl, r1, r2⟩ := rd.two
    exact ⟨x, y, rfl, e.nx _ _ _ _ _ k (cu.on s2) (((s.mono s2.g).set r1).set r2)⟩
theorem s_drop (h : EVP c cs Δ te P) (k : p.nx cs Δ) : STS c cs Δ (tDrop te) p := fun F G0 H0 σ G H D cu s R e =>
  h σ G H s cu.inn (R.on cu.st) _ fun d v G2 H2 pd s2 rd => e.nx _ _ _ _ _ k (cu.on s2) (s.mono s2.g)
theorem q_drop (h : EVP c cs Δ te P) (k : STS c cs Δ u p) : STS c cs Δ (tSeq (tDrop te) u) p := fun F G0 H0 σ G H D cu s R e =>
  h σ G H s cu.inn (R.on cu.st) _ fun d v G2 H2 pd s2 rd => k F G0 H0 _ _ _ _ (cu.on s2) (s.mono s2.g) R e
theorem s_ret (h : EVP c cs Δ te P) (k : ∀ d, P d → p.ret d) : STS c cs Δ (tRet te) p := fun F G0 H0 σ G H D cu s R e =>
  h σ G H s cu.inn (R.on cu.st) _ fun d v G2 H2 pd s2 rd => e.ret d v G2 H2 (k d pd) (cu.st.trans s2) rd
theorem s_retD (h : EVD c cs Δ te d) (k : p.ret d) : STS c cs Δ (tRet te) p := s_ret h fun _ e => by subst e; exact k
theorem s_retN (k : p.ret .non) : STS c cs Δ tRetN p := fun F G0 H0 σ G H D cu s R e => e.ret .non _ G H k cu.st rfl
theorem s_if {tu tw : TS} (h : EVB c cs Δ tt Pb) (h1 : Pb true → STS c cs Δ tu p) (h2 : Pb false → STS c cs Δ tw p) : STS c cs Δ (tIfS tt tu tw) p := fun F G0 H0 σ G H D cu s R e =>
  h σ G H s cu.inn (R.on cu.st) _ fun b G2 H2 pb s2 => by
    cases b with
    | true => exact h1 pb F G0 H0 σ G2 H2 D (cu.on s2) (s.mono s2.g) R e
    | false => exact h2 pb F G0 H0 σ G2 H2 D (cu.on s2) (s.mono s2.g) R e
theorem q_if {tu tw : TS} {M : NxT} (h : EVB c cs Δ tt Pb) (h1 : Pb true → STS c cs Δ tu { p with nx := M }) (h2 : Pb false → STS c cs Δ tw { p with nx := M }) (k : ∀ cs' Δ', M cs' Δ' → STS c cs' Δ' u p) : STS c cs Δ (tSeq (tIfS tt tu tw) u) p := s_seq (s_if h h1 h2) k
theorem s_yes {tu tw : TS} (h : EVT c cs Δ tt true) (h1 : STS c cs Δ tu p) : STS c cs Δ (tIfS tt tu tw) p := s_if h (fun _ => h1) fun e => nomatch e
theorem s_no {tu tw : TS} (h : EVT c cs Δ tt false) (h1 : STS c cs Δ tw p) : STS c cs Δ (tIfS tt tu tw) p := s_if h (fun e => nomatch e) fun _ => h1
/-- if t: .. (that does not go on); what is behind -/
theorem q_whenNo {tu : TS} (h : EVT c cs Δ tt false) (k : STS c cs Δ u p) : STS c cs Δ (tSeq (tIfS tt tu tNext) u) p :=
  s_seq (M := fun cs' Δ' => cs' = cs ∧ Δ' = Δ) (s_no h (s_next ⟨rfl, rfl⟩ (Le.refl _))) fun cs' Δ' ⟨e1, e2⟩ => by subst e1 e2; exact k
theorem q_when {tu : TS} (h : EVB c cs Δ tt Pb) (h1 : Pb true → STS c cs Δ tu { p with nx := fun _ _ => False }) (k : Pb false → STS c cs Δ u p) : STS c cs Δ (tSeq (tIfS tt tu tNext) u) p :=
  s_seq (M := fun cs' Δ' => Pb false ∧ cs' = cs ∧ Δ' = Δ) (s_if h (fun b => (h1 b).imp (fun _ x => x) (fun _ _ x => x.elim) (fun _ _ x => x) fun _ _ x => x) fun b => s_next ⟨b, rfl, rfl⟩ (Le.refl _)) fun cs' Δ' ⟨b, e1, e2⟩ => by subst e1 e2; exact k b
theorem s_never {h : False} : STS c cs Δ tNever p := h.elim
/-! cells -/
theorem q_new {P : List Dat → Prop} (h : EVN c cs Δ te P) (k : ∀ l ds, P ds → STS c ((l, .lst ds) :: cs) (Δ.set i (some (.obj (.ref l)))) u p) : STS c cs Δ (tSeq (tAsg te (gName i)) u) p := fun F G0 H0 σ G H D cu s R e =>
  h σ G H s cu.inn (R.on cu.st) _ fun ds l xs G2 H2 pd hl gl no s2 hx rs => by
    have cu2 := cu.on s2
    have h0 : H0 l = none := by
      cases q : H0 l with
      | none => rfl
      | some o => rw [cu.st.h l o no q] at hl; cases hl
    refine k l ds pd F G0 H0 _ G2 H2 D ⟨cu2.fl, cu2.st, ⟨cu2.inn.ex, cu2.inn.ok, cu2.inn.no, ?_, ?_⟩, ?_⟩ ((s.mono s2.g).set rfl) R e
    · rw [List.map_cons]
      refine List.nodup_cons.mpr ⟨fun hm => ?_, cu2.inn.nd⟩
      obtain ⟨x, hx, e1⟩ := List.mem_map.mp hm
      obtain ⟨_, _, o, ho, _⟩ := cu.inn.cell x hx
      rw [e1] at ho
      rw [ho] at hl; cases hl
    · intro x hm
      rcases List.mem_cons.mp hm with rfl | hm
      · exact ⟨gl, no, _, hx, xs, rfl, rs⟩
      · exact cu2.inn.cell x hm
    · intro x hm
      rcases List.mem_cons.mp hm with rfl | hm
      · exact h0
      · exact cu.fr x hm
/-- the first cell is taken for good -/
theorem Cur.good {l : Addr} {k : Cell} {F G0 H0 G H : Hp} (cu : Cur c ((l, k) :: cs) F G0 H0 G H) : ∃ o, H l = some o ∧ Cur c cs F G0 H0 (upd G l o) H ∧ Ex G (upd G l o) ∧ Rep c.K (upd G l o) k.dat (.ref l) := by
  obtain ⟨gl, no, o, ho, r⟩ := cu.inn.cell _ List.mem_cons_self
  have h0 : H0 l = none := cu.fr _ List.mem_cons_self
  have e : Ex G (upd G l o) := Ex.new gl
  have nd := List.nodup_cons.mp cu.inn.nd
  have i : Ex (upd G l o) H := fun a u q => by
    by_cases z : a = l
    · rw [z, upd_same] at q; cases q; rw [z]; exact ho
    · rw [upd_ne z] at q; exact cu.inn.ex a u q
  refine ⟨o, ho, ⟨cu.fl.trans e, ⟨cu.st.g.trans e, i, cu.st.ok, cu.st.h, fun a ha ga => ?_⟩, ⟨i, cu.inn.ok, fun a n => ?_, nd.2, fun x hx => ?_⟩, fun x hx => cu.fr x (List.mem_cons_of_mem _ hx)⟩, e, (r.mono e).good upd_same⟩
  · rw [upd_ne (fun z => ha (by rw [z]; exact h0))]; exact cu.st.d a ha ga
  · rw [upd_ne (fun z => no (by rw [← z]; exact n))]; exact cu.inn.no a n
  · obtain ⟨g1, n1, o1, h1, r1⟩ := cu.inn.cell x (List.mem_cons_of_mem _ hx)
    refine ⟨?_, n1, o1, h1, r1.mono e⟩
    rw [upd_ne (fun z => nd.1 (List.mem_map.mpr ⟨x, hx, z⟩))]; exact g1
theorem s_good {l : Addr} {k : Cell} (hi : Δ[i]? = some (some (.obj (.ref l)))) (h : STS c cs (Δ.set i (some k.dat)) t p) : STS c ((l, k) :: cs) Δ t p := fun F G0 H0 σ G H D cu s R e => by
  obtain ⟨o, ho, cu2, x, r⟩ := cu.good
  obtain ⟨v, h1, h2⟩ := s.at_ i _ hi
  rw [show v = .ref l from h2] at h1
  exact h F G0 H0 σ _ H D cu2 ((s.mono x).re h1 r) R e
/-- a cell's content is changed -/
theorem Cur.wr {l : Addr} {k k' : Cell} {o' : HO} {F G0 H0 G H : Hp} (cu : Cur c ((l, k) :: cs) F G0 H0 G H) (r : RepC c.K G k' o') : Cur c ((l, k') :: cs) F G0 H0 G (upd H l o') := by
  obtain ⟨gl, no, o, ho, r0⟩ := cu.inn.cell _ List.mem_cons_self
  have h0 : H0 l = none := cu.fr _ List.mem_cons_self
  have nd := List.nodup_cons.mp cu.inn.nd
  have ok : c.W.ok (upd H l o') := c.W.wr H l o o' cu.inn.ok no ho r0.noext
  refine ⟨cu.fl, ⟨cu.st.g, cu.inn.ex.out gl, ok, fun a u n q => ?_, cu.st.d⟩, ⟨cu.inn.ex.out gl, ok, cu.inn.no, cu.inn.nd, fun x hx => ?_⟩, fun x hx => ?_⟩
  · rw [upd_ne (ne_of_none q h0)]; exact cu.st.h a u n q
  · rcases List.mem_cons.mp hx with rfl | hx
    · exact ⟨gl, no, o', upd_same, r⟩
    · obtain ⟨g1, n1, o1, h1, r1⟩ := cu.inn.cell x (List.mem_cons_of_mem _ hx)
      refine ⟨g1, n1, o1, ?_, r1⟩
      rw [upd_ne (fun z => nd.1 (List.mem_map.mpr ⟨x, hx, z⟩))]; exact h1
  · rcases List.mem_cons.mp hx with rfl | hx
    · exact h0
    · exact cu.fr x (List.mem_cons_of_mem _ hx)
theorem Inn.lst {l : Addr} {ds : List Dat} {G H : Hp} (I : Inn c.K c.W ((l, .lst ds) :: cs) G H) : ∃ xs, H l = some (.lst xs) ∧ Reps c.K G ds xs := by
  obtain ⟨gl, no, o, ho, xs, e, r⟩ := I.cell _ List.mem_cons_self
  exact ⟨xs, by rw [ho, e], r⟩
/-- xs.append(e) -/
theorem q_app {l : Addr} {ds : List Dat} (hi : Δ[i]? = some (some (.obj (.ref l)))) (h : EVP c ((l, .lst ds) :: cs) Δ te P) (hl : ds.length < 100000) (k : ∀ d, P d → STS c ((l, .lst (ds ++ [d])) :: cs) Δ u p) :
    STS c ((l, .lst ds) :: cs) Δ (tSeq (tDrop (tBM c.K "list" rAppend (tVar i) (tCons te tNil))) u) p := fun F G0 H0 σ G H D cu s R e => by
  obtain ⟨v, h1, h2⟩ := s.at_ i _ hi
  obtain ⟨xs, hx, _⟩ := cu.inn.lst
  refine ⟨v, h1, ?_⟩
  rw [show v = .ref l from h2]
  refine ⟨.inl ⟨rfl, _, .inl (.inl hx)⟩, ?_⟩
  refine h σ G H s cu.inn (R.on cu.st) _ fun d y G2 H2 pd s2 rd => ?_
  have cu2 := cu.on s2
  obtain ⟨ys, hy, ry⟩ := cu2.inn.lst
  refine ⟨l, ys, y, rfl, rfl, hy, ?_, ?_⟩
  · exact Nat.lt_of_lt_of_le (by rw [ry.len]; exact hl) (by decide)
  · exact k d pd F G0 H0 σ G2 _ D (cu2.wr (k' := .lst (ds ++ [d])) ⟨_, rfl, ry.app (Reps.one rd)⟩) (s.mono s2.g) R e
theorem s_app {l : Addr} {ds : List Dat} (hi : Δ[i]? = some (some (.obj (.ref l)))) (h : EVP c ((l, .lst ds) :: cs) Δ te P) (hl : ds.length < 100000) (k : ∀ d, P d → p.nx ((l, .lst (ds ++ [d])) :: cs) Δ) :
    STS c ((l, .lst ds) :: cs) Δ (tDrop (tBM c.K "list" rAppend (tVar i) (tCons te tNil))) p := fun F G0 H0 σ G H D cu s R e => by
  exact q_app (u := tNext) hi h hl (fun d pd => s_next (k d pd) (Le.refl _)) F G0 H0 σ G H D cu s R e
end
end DV

set_option autoImplicit false
set_option linter.all false
set_option maxRecDepth 100000
set_option maxHeartbeats 1000000
namespace DV
open PySem L2

/-! ### what is walked -/
/-- J walks the data ds as long as G stands -/
def JS (c : Ct) (J : It) (ds : List Dat) (G : Hp) : Prop :=
  ∀ cs G' H', Ex G G' → Inn c.K c.W cs G' H' → ∀ i : Nat, (ds.length ≤ i → J.stop i H') ∧ ∀ d, ds[i]? = some d → J.go i H' ∧ ∀ x H'', J.yld i H' x H'' → ∃ G'', Step c.W G' H' G'' H'' ∧ Rep c.K G'' d x
def EVF (c : Ct) (cs : Cells) (Δ : Sts) (wi : TI) (P : List Dat → Prop) : Prop :=
  ∀ σ G H, Sig c.K G σ Δ → Inn c.K c.W cs G H → Raises c G H → ∀ R : It → Hp → Prop, (∀ ds J G2 H2, P ds → Step c.W G H G2 H2 → JS c J ds G2 → R J H2) → wi σ H R
section
variable {c : Ct} {cs cs' : Cells} {Δ Δ' : Sts} {t u tb : TS} {p : Po} {te tl : TE} {ta : TA} {tt : TT} {P : Dat → Prop} {d a b : Dat} {g : TG} {N : NxT} {i j : Nat} {wi : TI}
theorem f_list {PL : List Dat → Prop} (h : EVP c cs Δ tl fun d => ∃ ds, d = .lst ds ∧ PL ds) : EVF c cs Δ (iList c.K tl) PL := fun σ G H s I R Q k =>
  h σ G H s I R _ fun d v G2 H2 ⟨ds, e, pd⟩ s2 rd => by
    subst e
    obtain ⟨a, xs, rfl, hq, rs⟩ := rd
    refine ⟨a, rfl, ⟨xs, ex_l s2.i hq⟩, k ds _ G2 H2 pd s2 fun cs G' H' e I' i => ⟨fun hl => ⟨xs, ex_l (e.trans I'.ex) hq, by rw [rs.len]; exact hl⟩, fun d hd => ?_⟩⟩
    obtain ⟨v, hv, rv⟩ := rs.get hd
    refine ⟨⟨xs, v, ex_l (e.trans I'.ex) hq, hv⟩, fun x H'' ⟨e1, hy⟩ => ?_⟩
    subst e1
    have e2 := hy xs (ex_l (e.trans I'.ex) hq)
    rw [hv] at e2; cases e2
    exact ⟨G', Step.refl I', rv.mono e⟩
theorem f_tup {PL : List Dat → Prop} (h : EVP c cs Δ tl fun d => ∃ ds, d = .tup ds ∧ PL ds) : EVF c cs Δ (iTup c.K tl) PL := fun σ G H s I R Q k =>
  h σ G H s I R _ fun d v G2 H2 ⟨ds, e, pd⟩ s2 rd => by
    subst e
    obtain ⟨a, xs, rfl, hq, rs⟩ := rd
    refine ⟨a, rfl, ⟨xs, ex_t s2.i hq⟩, k ds _ G2 H2 pd s2 fun cs G' H' e I' i => ⟨fun hl => ⟨xs, ex_t (e.trans I'.ex) hq, by rw [rs.len]; exact hl⟩, fun d hd => ?_⟩⟩
    obtain ⟨v, hv, rv⟩ := rs.get hd
    refine ⟨⟨xs, v, ex_t (e.trans I'.ex) hq, hv⟩, fun x H'' ⟨e1, hy⟩ => ?_⟩
    subst e1
    have e2 := hy xs (ex_t (e.trans I'.ex) hq)
    rw [hv] at e2; cases e2
    exact ⟨G', Step.refl I', rv.mono e⟩
theorem f_listD {ds : List Dat} (h : EVD c cs Δ tl (.lst ds)) : EVF c cs Δ (iList c.K tl) fun x => x = ds := f_list (h.imp fun d e => ⟨ds, e, rfl⟩)
theorem f_tupD {ds : List Dat} (h : EVD c cs Δ tl (.tup ds)) : EVF c cs Δ (iTup c.K tl) fun x => x = ds := f_tup (h.imp fun d e => ⟨ds, e, rfl⟩)
theorem f_rng1 {Pn : Int → Prop} (h : EVA c cs Δ ta fun l => ∃ n : Int, l = [.int n] ∧ Pn n) (hn : ∀ n, Pn n → n ≤ 100000 ∧ -100000 ≤ n) : EVF c cs Δ (iRng1 ta) fun l => ∃ n : Int, Pn n ∧ l = (List.range n.toNat).map fun (i : Nat) => Dat.int (i : Int) := fun σ G H s I R Q k =>
  h σ G H s I R _ fun ds vs G2 H2 ⟨n, e, pn⟩ s2 rs => by
    subst e
    obtain ⟨x, rfl, rx⟩ := rs.only
    rw [show x = .int n from rx]
    have := hn n pn
    refine ⟨n, rfl, by omega, by omega, k _ _ G2 H2 ⟨n, pn, rfl⟩ s2 fun cs G' H' e I' i => ⟨fun hl => ?_, fun d hd => ?_⟩⟩
    · rw [List.length_map, List.length_range] at hl
      exact hl
    · rw [List.getElem?_map] at hd
      have hi : i < n.toNat := by
        rcases Nat.lt_or_ge i n.toNat with q | q
        · exact q
        · rw [List.getElem?_eq_none (by simpa using q)] at hd; cases hd
      rw [List.getElem?_range hi] at hd
      cases hd
      refine ⟨hi, fun x H'' ⟨e1, e2⟩ => ?_⟩
      subst e1 e2
      exact ⟨G', Step.refl I', by rw [Int.zero_add]; rfl⟩
/-! ### for, while -/
theorem s_for {PL : List Dat → Prop} {Δf : Sts → Dat → Sts} {is : List Nat} (I : List Dat → Nat → Cells → Sts → Prop) (hw : EVF c cs Δ wi PL) (h0 : ∀ ds, PL ds → I ds 0 cs Δ)
    (hs : ∀ ds i d cs' Δ', PL ds → ds[i]? = some d → I ds i cs' Δ' → GTP c Δ' g d (Δf Δ' d) is ∧ STS c cs' (Δf Δ' d) tb { ret := p.ret, nx := I ds (i + 1), ct := I ds (i + 1), bk := p.nx })
    (hd : ∀ ds cs' Δ', PL ds → I ds ds.length cs' Δ' → p.nx cs' Δ') : STS c cs Δ (tFor wi g tb) p := fun F G0 H0 σ G H D cu s R e =>
  hw σ G H s cu.inn (R.on cu.st) _ fun ds J G1 H1 pl s1 js => by
    have cu1 := cu.on s1
    refine ⟨fun i m σ' H' => m = ds.length - i ∧ i ≤ ds.length ∧ ∃ cs' Δ' G', I ds i cs' Δ' ∧ Cur c cs' G1 G0 H0 G' H' ∧ Sig c.K G' σ' Δ', ⟨_, rfl, Nat.zero_le _, cs, Δ, G1, h0 ds pl, ⟨Ex.refl _, cu1.st, cu1.inn, cu1.fr⟩, s.mono s1.g⟩, ?_⟩
    rintro i m σ' H' ⟨rfl, hi, cs', Δ', G', hI, cu', s'⟩
    have e0 : Ex F G1 := cu1.fl
    by_cases hlt : i < ds.length
    · have hget : ds[i]? = some ds[i] := List.getElem?_eq_getElem hlt
      obtain ⟨hgo, hy⟩ := (js cs' G' H' cu'.fl cu'.inn i).2 _ hget
      refine .inr ⟨hgo, fun σ2 H2 => ∃ cs2 Δ2 G2, I ds (i + 1) cs2 Δ2 ∧ Cur c cs2 G1 G0 H0 G2 H2 ∧ Sig c.K G2 σ2 Δ2, fun σ2 H2 ⟨cs2, Δ2, G2, i2, c2, g2⟩ => ⟨ds.length - (i + 1), by omega, rfl, by omega, cs2, Δ2, G2, i2, c2, g2⟩, fun x H'' y => ?_⟩
      obtain ⟨G'', st, rx⟩ := hy x H'' y
      have cu2 := cu'.on st
      obtain ⟨ht, hb⟩ := hs ds i _ cs' Δ' pl hget hI
      refine ht σ' G'' H'' x st.i (s'.mono st.g) rx _ fun σ2 s2 _ _ => ?_
      exact hb G1 G0 H0 σ2 G'' H'' _ cu2 s2 R ⟨e.ret, fun cs3 Δ3 σ3 G3 H3 n c3 g3 => ⟨cs3, Δ3, G3, n, c3, g3⟩, fun cs3 Δ3 σ3 G3 H3 n c3 g3 => e.nx cs3 Δ3 σ3 G3 H3 n ⟨e0.trans c3.fl, c3.st, c3.inn, c3.fr⟩ g3, fun cs3 Δ3 σ3 G3 H3 n c3 g3 => ⟨cs3, Δ3, G3, n, c3, g3⟩⟩
    · have ei : i = ds.length := by omega
      subst ei
      exact .inl ⟨(js cs' G' H' cu'.fl cu'.inn _).1 (Nat.le_refl _), e.nx cs' Δ' σ' G' H' (hd ds cs' Δ' pl hI) ⟨e0.trans cu'.fl, cu'.st, cu'.inn, cu'.fr⟩ s'⟩
/-- over known data, the target a name -/
theorem s_forD {ds : List Dat} (I : Nat → Cells → Sts → Prop) (hw : EVF c cs Δ wi fun x => x = ds) (h0 : I 0 cs Δ)
    (hs : ∀ i d cs' Δ', ds[i]? = some d → I i cs' Δ' → STS c cs' (Δ'.set j (some d)) tb { ret := p.ret, nx := I (i + 1), ct := I (i + 1), bk := p.nx }) (hd : ∀ cs' Δ', I ds.length cs' Δ' → p.nx cs' Δ') : STS c cs Δ (tFor wi (gName j) tb) p :=
  s_for (Δf := fun Δ' d => Δ'.set j (some d)) (is := [j]) (fun _ => I) hw (fun _ _ => h0) (fun ds' i d cs' Δ' e hd hI => ⟨g_name, hs i d cs' Δ' (by rw [← e]; exact hd) hI⟩) fun ds' cs' Δ' e hI => hd cs' Δ' (by rw [← e]; exact hI)
theorem q_forD {ds : List Dat} (I : Nat → Cells → Sts → Prop) (hw : EVF c cs Δ wi fun x => x = ds) (h0 : I 0 cs Δ)
    (hs : ∀ i d cs' Δ', ds[i]? = some d → I i cs' Δ' → STS c cs' (Δ'.set j (some d)) tb { ret := p.ret, nx := I (i + 1), ct := I (i + 1), bk := I ds.length }) (hd : ∀ cs' Δ', I ds.length cs' Δ' → STS c cs' Δ' u p) : STS c cs Δ (tSeq (tFor wi (gName j) tb) u) p :=
  s_seq (M := I ds.length) (s_forD I hw h0 hs fun _ _ h => h) hd
theorem s_while (I : Nat → Cells → Sts → Prop) (m0 : Nat) (h0 : I m0 cs Δ)
    (hs : ∀ m cs' Δ', I m cs' Δ' → ∃ Pb : Bool → Prop, EVB c cs' Δ' tt Pb ∧ (Pb true → STS c cs' Δ' tb { ret := p.ret, nx := fun cs2 Δ2 => ∃ m', m' < m ∧ I m' cs2 Δ2, ct := fun cs2 Δ2 => ∃ m', m' < m ∧ I m' cs2 Δ2, bk := p.nx }) ∧ (Pb false → p.nx cs' Δ')) :
    STS c cs Δ (tWhile tt tb) p := fun F G0 H0 σ G H D cu s R e => by
  refine ⟨fun m σ' H' => ∃ cs' Δ' G', I m cs' Δ' ∧ Cur c cs' F G0 H0 G' H' ∧ Sig c.K G' σ' Δ', ⟨m0, cs, Δ, G, h0, cu, s⟩, ?_⟩
  rintro m σ' H' ⟨cs', Δ', G', hI, cu', s'⟩
  obtain ⟨Pb, h1, h2, h3⟩ := hs m cs' Δ' hI
  refine h1 σ' G' H' s' cu'.inn (R.on cu'.st) _ fun b G2 H2 pb s2 => ?_
  have cu2 := cu'.on s2
  cases b with
  | true =>
    refine ⟨fun σ3 H3 => ∃ m' cs3 Δ3 G3, m' < m ∧ I m' cs3 Δ3 ∧ Cur c cs3 F G0 H0 G3 H3 ∧ Sig c.K G3 σ3 Δ3, fun σ3 H3 ⟨m', cs3, Δ3, G3, l, i3, c3, g3⟩ => ⟨m', l, cs3, Δ3, G3, i3, c3, g3⟩, ?_⟩
    exact h2 pb F G0 H0 σ' G2 H2 _ cu2 (s'.mono s2.g) R ⟨e.ret, fun cs3 Δ3 σ3 G3 H3 ⟨m', l, n⟩ c3 g3 => ⟨m', cs3, Δ3, G3, l, n, c3, g3⟩, e.nx, fun cs3 Δ3 σ3 G3 H3 ⟨m', l, n⟩ c3 g3 => ⟨m', cs3, Δ3, G3, l, n, c3, g3⟩⟩
  | false => exact e.nx cs' Δ' σ' G2 H2 (h3 pb) cu2 (s'.mono s2.g)
theorem q_while (I : Nat → Cells → Sts → Prop) (M : NxT) (m0 : Nat) (h0 : I m0 cs Δ)
    (hs : ∀ m cs' Δ', I m cs' Δ' → ∃ Pb : Bool → Prop, EVB c cs' Δ' tt Pb ∧ (Pb true → STS c cs' Δ' tb { ret := p.ret, nx := fun cs2 Δ2 => ∃ m', m' < m ∧ I m' cs2 Δ2, ct := fun cs2 Δ2 => ∃ m', m' < m ∧ I m' cs2 Δ2, bk := M }) ∧ (Pb false → M cs' Δ'))
    (k : ∀ cs' Δ', M cs' Δ' → STS c cs' Δ' u p) : STS c cs Δ (tSeq (tWhile tt tb) u) p := s_seq (M := M) (s_while I m0 h0 hs) k
end

/-! ### comprehensions -/
def wipeD (Δ : Sts) : List Nat → Sts
  | [] => Δ
  | v :: vs => (wipeD Δ vs).set v none
theorem Sig.wipe {K : PySem.W.Frag} {G : Hp} {σ : L2.St} {Δ : Sts} (s : Sig K G σ Δ) : ∀ vs : List Nat, Sig K G (wipe σ vs) (wipeD Δ vs)
  | [] => s
  | v :: vs => (Sig.wipe s vs).forget v none
theorem wipe_get {σ : L2.St} {i : Nat} : ∀ {vs : List Nat}, i ∉ vs → (wipe σ vs)[i]? = σ[i]? := wipe_out
theorem wipe_in {σ : L2.St} {i : Nat} : ∀ {vs : List Nat}, i ∈ vs → (wipe σ vs)[i]? = none ∨ (wipe σ vs)[i]? = some none
  | v :: vs, h => by
    by_cases e : v = i
    · subst e
      unfold wipe
      by_cases l : v < (wipe σ vs).length
      · rw [List.getElem?_set_self l]; exact .inr rfl
      · rw [List.getElem?_eq_none (by simpa using l)]; exact .inl rfl
    · unfold wipe
      rw [List.getElem?_set_ne e]
      rcases List.mem_cons.mp h with z | z
      · exact absurd z.symm e
      · exact wipe_in z
theorem wipe_same {σ σ' : L2.St} {vs is : List Nat} (hl : σ'.length = σ.length) (h : ∀ i, i ∉ is → σ'[i]? = (wipe σ vs)[i]?) (hs : ∀ i ∈ is, i ∈ vs) : wipe σ' vs = wipe σ vs := by
  refine List.ext_getElem? fun i => ?_
  by_cases hi : i ∈ vs
  · have l1 : (wipe σ' vs).length = (wipe σ vs).length := by rw [wipe_length, wipe_length, hl]
    by_cases l : i < (wipe σ vs).length
    · rcases wipe_in (σ := σ') hi with a | a
      · rw [List.getElem?_eq_none_iff] at a; omega
      · rcases wipe_in (σ := σ) hi with b | b
        · rw [List.getElem?_eq_none_iff] at b; omega
        · rw [a, b]
    · rw [List.getElem?_eq_none (by omega), List.getElem?_eq_none (by omega)]
  · rw [wipe_get hi, h i (fun z => hi (hs i z))]
/-- what a comprehension makes of the items: Pt the tests' answers, Pe the elements -/
inductive CompR (Pt : Dat → Bool → Prop) (Pe : Dat → Dat → Prop) : List Dat → List Dat → Prop
  | nil : CompR Pt Pe [] []
  | yes {ds es : List Dat} {d e : Dat} : CompR Pt Pe ds es → Pt d true → Pe d e → CompR Pt Pe (ds ++ [d]) (es ++ [e])
  | no {ds es : List Dat} {d : Dat} : CompR Pt Pe ds es → Pt d false → CompR Pt Pe (ds ++ [d]) es
theorem take_more {α : Type} : ∀ {l : List α} {i : Nat} {x : α}, l[i]? = some x → l.take (i + 1) = l.take i ++ [x]
  | [], i, x, h => by simp at h
  | a :: l, 0, x, h => by
    have e : a = x := Option.some.inj h
    subst e
    rfl
  | a :: l, i + 1, x, h => by
    have ih := take_more (l := l) (i := i) (x := x) h
    show a :: l.take (i + 1) = a :: l.take i ++ [x]
    rw [ih]
    rfl
theorem CompR.len {Pt : Dat → Bool → Prop} {Pe : Dat → Dat → Prop} {ds es : List Dat} (h : CompR Pt Pe ds es) : es.length ≤ ds.length := by
  induction h with
  | nil => exact Nat.le_refl _
  | yes _ _ _ ih => simp only [List.length_append, List.length_singleton]; omega
  | no _ _ ih => simp only [List.length_append, List.length_singleton]; omega
/-- no test, elements known -/
theorem CompR.map {Pe : Dat → Dat → Prop} {f : Dat → Dat} {ds es : List Dat} (h : CompR (fun _ b => b = true) Pe ds es) (hf : ∀ d ∈ ds, ∀ e, Pe d e → e = f d) : es = ds.map f := by
  induction h with
  | nil => rfl
  | yes _ _ pe ih =>
    rw [List.map_append, ← ih (fun d hd => hf d (List.mem_append_left _ hd)), hf _ (by simp) _ pe]
    rfl
  | no _ q _ => cases q
theorem CompR.filt {Pt : Dat → Bool → Prop} {Pe : Dat → Dat → Prop} {t : Dat → Bool} {f : Dat → Dat} {ds es : List Dat} (h : CompR Pt Pe ds es) (ht : ∀ d ∈ ds, ∀ b, Pt d b → b = t d) (hf : ∀ d ∈ ds, ∀ e, t d = true → Pe d e → e = f d) : es = (ds.filter t).map f := by
  induction h with
  | nil => rfl
  | yes _ pt pe ih =>
    have q := ht _ (by simp) _ pt
    rw [List.filter_append, List.map_append, ← ih (fun d hd => ht d (List.mem_append_left _ hd)) (fun d hd => hf d (List.mem_append_left _ hd)), List.filter_cons, if_pos q.symm, hf _ (by simp) _ q.symm pe]
    rfl
  | no _ pt ih =>
    have q := ht _ (by simp) _ pt
    rw [List.filter_append, List.map_append, ← ih (fun d hd => ht d (List.mem_append_left _ hd)) (fun d hd => hf d (List.mem_append_left _ hd)), List.filter_cons, if_neg (by rw [← q]; decide)]
    simp
/-- no test: as many, each by its item -/
theorem CompR.all {Pe : Dat → Dat → Prop} {ds es : List Dat} (h : CompR (fun _ b => b = true) Pe ds es) : es.length = ds.length ∧ ∀ e ∈ es, ∃ d ∈ ds, Pe d e := by
  induction h with
  | nil => exact ⟨rfl, fun _ h => nomatch h⟩
  | yes _ _ pe ih =>
    refine ⟨by simp [ih.1], fun e he => ?_⟩
    rcases List.mem_append.mp he with q | q
    · obtain ⟨d, h1, h2⟩ := ih.2 e q
      exact ⟨d, List.mem_append_left _ h1, h2⟩
    · rw [List.mem_singleton] at q
      subst q
      exact ⟨_, by simp, pe⟩
  | no _ q _ => cases q
section
variable {c : Ct} {cs cs' : Cells} {Δ Δ' : Sts} {te tl : TE} {ta : TA} {tt : TT} {P : Dat → Prop} {d a b : Dat} {g : TG} {i j : Nat} {wi : TI} {vs : List Nat}
theorem en_lc {PL : List Dat → Prop} {Δf : Dat → Sts} {is : List Nat} {Pt : Dat → Bool → Prop} {Pe : Dat → Dat → Prop} (hw : EVF c cs Δ wi PL) (hz : ∀ ds, PL ds → ds.length ≤ 50000) (hg : ∀ ds d, PL ds → d ∈ ds → GTP c (wipeD Δ vs) g d (Δf d) is) (hv : ∀ i ∈ is, i ∈ vs)
    (ht : ∀ ds d, PL ds → d ∈ ds → EVB c cs (Δf d) tt (Pt d)) (he : ∀ ds d, PL ds → d ∈ ds → Pt d true → EVP c cs (Δf d) te (Pe d)) : EVN c cs Δ (tLc wi g tt te vs) fun es => ∃ ds, PL ds ∧ CompR Pt Pe ds es := fun σ G H s I R Q k =>
  hw σ G H s I R _ fun ds J G1 H1 pl s1 js D hD => by
    have I1 := s1.inn I
    have noD : ¬ c.W.own D := fun z => c.W.has _ I1.ok D z hD
    have hD0 : H D = none := by
      cases q : H D with
      | none => rfl
      | some o => rw [s1.h D o noD q] at hD; cases hD
    refine ⟨fun i m H' => m = ds.length - i ∧ i ≤ ds.length ∧ ∃ G' xs es, CompR Pt Pe (ds.take i) es ∧ Step c.W G1 H1 G' H' ∧ Inn c.K c.W cs G' H' ∧ G' D = none ∧ H' D = some (.lst xs) ∧ Reps c.K G' es xs, ⟨_, rfl, Nat.zero_le _, G1, [], [], .nil, Step.aside I1 hD, (Step.aside I1 hD).inn I1, I1.ex.none_of hD, upd_same, rfl⟩, ?_⟩
    rintro i m H' ⟨rfl, hi, G', xs, es, hcr, st, I', gD, hx, rs⟩
    by_cases hlt : i < ds.length
    · have hget : ds[i]? = some ds[i] := List.getElem?_eq_getElem hlt
      have hmem : ds[i] ∈ ds := List.getElem_mem hlt
      obtain ⟨hgo, hy⟩ := (js cs G' H' st.g I' i).2 _ hget
      refine .inr ⟨hgo, fun H2 => ∃ G2 xs es, CompR Pt Pe (ds.take (i + 1)) es ∧ Step c.W G1 H1 G2 H2 ∧ Inn c.K c.W cs G2 H2 ∧ G2 D = none ∧ H2 D = some (.lst xs) ∧ Reps c.K G2 es xs, fun H2 ⟨G2, xs, es, a⟩ => ⟨ds.length - (i + 1), by omega, rfl, by omega, G2, xs, es, a⟩, fun x H'' y => ?_⟩
      obtain ⟨G'', st2, rx⟩ := hy x H'' y
      have I'' := st2.inn I'
      have st'' := st.trans st2
      have sw : Sig c.K G'' (wipe σ vs) (wipeD Δ vs) := (s.mono (s1.g.trans st''.g)).wipe vs
      refine hg ds _ pl hmem _ G'' H'' x st2.i sw rx _ fun σ' s' hlen hσ => ⟨?_, ?_⟩
      · have hl : σ'.length = σ.length := by rw [hlen, wipe_length]
        exact wipe_same hl hσ hv
      · refine ht ds _ pl hmem σ' G'' H'' s' I'' ((R.on s1).on st'') _ fun b G3 H3 pb s3 => ?_
        have I3 := s3.inn I''
        have st3 := st''.trans s3
        have gD3 : G3 D = none := s3.d D (by rw [st2.h D _ noD hx]; exact fun z => nomatch z) (st2.d D (by rw [hx]; exact fun z => nomatch z) gD)
        have hx3 : H3 D = some (.lst xs) := s3.h D _ noD (st2.h D _ noD hx)
        have rs3 : Reps c.K G3 es xs := rs.mono (st2.g.trans s3.g)
        cases b with
        | false => exact ⟨G3, xs, es, by rw [take_more hget]; exact hcr.no pb, st3, I3, gD3, hx3, rs3⟩
        | true =>
          refine he ds _ pl hmem pb σ' G3 H3 (s'.mono s3.g) I3 ((R.on s1).on st3) _ fun e v G4 H4 pe s4 re => ?_
          have I4 := s4.inn I3
          have st4 := st3.trans s4
          have gD4 : G4 D = none := s4.d D (by rw [hx3]; exact fun z => nomatch z) gD3
          have hx4 : H4 D = some (.lst xs) := s4.h D _ noD hx3
          have rs4 : Reps c.K G4 es xs := rs3.mono s4.g
          have hl := hcr.len
          have hz' := hz ds pl
          rw [List.length_take] at hl
          refine ⟨xs, hx4, Nat.lt_of_le_of_lt (by rw [rs4.len]; omega : xs.length ≤ 50000) (by decide), G4, xs ++ [v], es ++ [e], by rw [take_more hget]; exact hcr.yes pb pe, ?_, ?_, gD4, upd_same, rs4.app (Reps.one re)⟩
          · exact ⟨st4.g, st4.i.out gD4, c.W.wr H4 D _ _ st4.ok noD hx4 (fun φ z => nomatch z), fun a o n q => by rw [upd_ne (ne_of_none q hD)]; exact st4.h a o n q, st4.d⟩
          · exact ⟨I4.ex.out gD4, c.W.wr H4 D _ _ st4.ok noD hx4 (fun φ z => nomatch z), I4.no, I4.nd, fun x hx => by
              obtain ⟨g1, n1, o1, h1, r1⟩ := I4.cell x hx
              obtain ⟨_, _, o0, h0, _⟩ := I1.cell x hx
              refine ⟨g1, n1, o1, ?_, r1⟩
              rw [upd_ne (ne_of_none h0 hD)]; exact h1⟩
    · have ei : i = ds.length := by omega
      subst ei
      rw [List.take_length] at hcr
      exact .inl ⟨(js cs G' H' st.g I' _).1 (Nat.le_refl _), k es D xs G' H' ⟨ds, pl, hcr⟩ hD0 gD noD (s1.trans st) hx rs⟩
end
end DV

set_option autoImplicit false
set_option linter.all false
set_option maxRecDepth 100000
set_option maxHeartbeats 1000000
namespace DV
open PySem L2

/-! ### promises over data -/
/-- from data as the def makes data ds', or raises -/
def FSp (K : PySem.W.Frag) (pre : Wld → List Dat → Prop) (post : List Dat → Dat → Prop) (xp : List Dat → Exc → Prop) : Sp := fun vs H Q E =>
  ∃ (W : Wld) (G : Hp) (ds : List Dat), Inn K W [] G H ∧ Reps K G ds vs ∧ pre W ds ∧ (∀ d v G2 H2, post ds d → Step W G H G2 H2 → Rep K G2 d v → Q v H2) ∧ ∀ x cls dd G2 H2, xp ds x → Step W G H G2 H2 → RepX K G2 H2 x cls dd → E cls dd H2
/-- a pure one: f its value -/
abbrev noX : List Dat → Exc → Prop := fun _ _ => False

theorem sig_start {K : PySem.W.Frag} {G : Hp} {N : List Str} {ds : List Dat} {vs : List V} (r : Reps K G ds vs) : Sig K G (L2.start N vs) (ds.map some ++ List.replicate (N.length - ds.length) none) := by
  unfold L2.start
  rw [r.len]
  refine ⟨by simp [r.len], fun i d h => ?_⟩
  by_cases l : i < ds.length
  · rw [List.getElem?_append_left (by simpa using l), List.getElem?_map] at h
    rw [List.getElem?_append_left (by simpa [r.len] using l), List.getElem?_map]
    cases e : ds[i]? with
    | none => rw [e] at h; cases h
    | some d' =>
      rw [e] at h
      cases h
      obtain ⟨v, h1, h2⟩ := r.get e
      exact ⟨v, by rw [h1]; rfl, h2⟩
  · rw [List.getElem?_append_right (by simpa using Nat.le_of_not_lt l), List.length_map, List.getElem?_replicate] at h
    split at h <;> cases h
/-- a def's body: from what its statements do -/
theorem FSp.body {K : PySem.W.Frag} {pre : Wld → List Dat → Prop} {post : List Dat → Dat → Prop} {xp : List Dat → Exc → Prop} {N : List Str} {t : TS} {vs : List V} {H : Hp} {Q : VK} {E : XK} (h : FSp K pre post xp vs H Q E)
    (b : ∀ W ds, pre W ds → STS ⟨K, W, E, xp ds⟩ [] (ds.map some ++ List.replicate (N.length - ds.length) none) t { ret := post ds, nx := fun _ _ => post ds .non }) : t { nx := fun _ H' => Q .non H', rt := Q } (L2.start N vs) H := by
  obtain ⟨W, G, ds, I, r, p, q, x⟩ := h
  refine b W ds p G G H (L2.start N vs) G H _ ⟨Ex.refl _, Step.refl I, I, fun _ h => nomatch h⟩ (sig_start r) (fun e cls dd G2 H2 hx s2 hr => x e cls dd G2 H2 hx s2 hr) ⟨fun d v G2 H2 pd s2 rd => q d v G2 H2 pd s2 rd, fun cs Δ σ G' H' pd cu s => q .non .non G' H' pd cu.st rfl, fun _ _ _ _ _ z => z.elim, fun _ _ _ _ _ z => z.elim⟩
theorem FSp.len {K : PySem.W.Frag} {pre : Wld → List Dat → Prop} {post : List Dat → Dat → Prop} {xp : List Dat → Exc → Prop} {n : Nat} (hn : ∀ W ds, pre W ds → ds.length = n) : ∀ vs H Q E, FSp K pre post xp vs H Q E → vs.length = n := fun vs H Q E ⟨W, G, ds, I, r, p, _⟩ => r.len.trans (hn W ds p)
section
variable {c : Ct} {cs cs' : Cells} {Δ Δ' : Sts} {te ta tb : TE} {tr tk : TA} {P : Dat → Prop} {d a b : Dat} {ds : List Dat} {pre : Wld → List Dat → Prop} {post : List Dat → Dat → Prop} {xp : List Dat → Exc → Prop} {PA : List Dat → Prop}
/-- the callee, by values -/
theorem sp_run {E : XK} {G H : Hp} {vs : List V} {Q : VK} (I : Inn c.K c.W cs G H) (R : Raises c G H) (r : Reps c.K G ds vs) (hp : pre c.W ds) (hx : (c.E = E ∧ ∀ x, xp ds x → c.X x) ∨ ∀ x, ¬ xp ds x) (q : ∀ d v G2 H2, post ds d → Step c.W G H G2 H2 → Rep c.K G2 d v → Q v H2) :
    FSp c.K pre post xp vs H Q E := by
  refine ⟨c.W, G, ds, I.nil, r, hp, q, fun x cls dd G2 H2 h s2 hr => ?_⟩
  rcases hx with ⟨e, hx⟩ | hx
  · exact e ▸ R x cls dd G2 H2 (hx x h) s2 hr
  · exact (hx x h).elim
theorem evp_call {E : XK} {dvs : List V} {dds : List Dat} (hd : ∀ G, Reps c.K G dds dvs) (ha : EVA c cs Δ tr PA) (hp : ∀ ds, PA ds → pre c.W (ds ++ dds)) (hx : ∀ ds, PA ds → (c.E = E ∧ ∀ x, xp (ds ++ dds) x → c.X x) ∨ ∀ x, ¬ xp (ds ++ dds) x) (hq : ∀ ds d, PA ds → post (ds ++ dds) d → P d) :
    EVP c cs Δ (tCall (FSp c.K pre post xp) dvs E tr) P := fun σ G H s I R Q k =>
  ha σ G H s I R _ fun ds vs G1 H1 pa s1 rs => sp_run (s1.inn I) (R.on s1) (rs.app (hd G1)) (hp ds pa) (hx ds pa) fun d v G2 H2 pd s2 => k d v G2 H2 (hq ds d pa pd) (s1.trans s2)
/-- arguments known, no defaults -/
theorem ev_call {E : XK} (ha : EVL c cs Δ tr ds) (hp : pre c.W ds) (hx : (c.E = E ∧ ∀ x, xp ds x → c.X x) ∨ ∀ x, ¬ xp ds x) (hq : ∀ d, post ds d → P d) : EVP c cs Δ (tCall (FSp c.K pre post xp) [] E tr) P :=
  evp_call (dds := []) (fun G => rfl) ha (fun _ e => by subst e; rw [List.append_nil]; exact hp) (fun _ e => by subst e; rw [List.append_nil]; exact hx) fun _ d e h => by subst e; rw [List.append_nil] at h; exact hq d h
theorem ev_callD {E : XK} {dvs : List V} {dds : List Dat} (hd : ∀ G, Reps c.K G dds dvs) (ha : EVL c cs Δ tr ds) (hp : pre c.W (ds ++ dds)) (hx : (c.E = E ∧ ∀ x, xp (ds ++ dds) x → c.X x) ∨ ∀ x, ¬ xp (ds ++ dds) x) (hq : ∀ d, post (ds ++ dds) d → P d) : EVP c cs Δ (tCall (FSp c.K pre post xp) dvs E tr) P :=
  evp_call hd ha (fun _ e => by subst e; exact hp) (fun _ e => by subst e; exact hx) fun _ d e h => by subst e; exact hq d h
/-- f(e, .., k = v, ..) -/
theorem ev_callN {E : XK} {n m : Nat} {gV : List V → List V → List V} {es fs : List Dat} (ha : EVL c cs Δ tr es) (hk : EVL c cs Δ tk fs) (h1 : es.length = n) (h2 : fs.length = m) (hg : ∀ G vs zs, Reps c.K G es vs → Reps c.K G fs zs → Reps c.K G ds (gV vs zs)) (hp : pre c.W ds)
    (hx : (c.E = E ∧ ∀ x, xp ds x → c.X x) ∨ ∀ x, ¬ xp ds x) (hq : ∀ d, post ds d → P d) : EVP c cs Δ (tCallN n m (FSp c.K pre post xp) gV E tr tk) P := fun σ G H s I R Q k =>
  ha σ G H s I R _ fun es' vs G1 H1 e1 s1 rs => hk σ G1 H1 (s.mono s1.g) (s1.inn I) (R.on s1) _ fun fs' zs G2 H2 e2 s2 rz => by
    subst e1 e2
    have rs2 := rs.mono s2.g
    refine ⟨by rw [rs.len, h1], by rw [rz.len, h2], ?_⟩
    exact sp_run (s2.inn (s1.inn I)) ((R.on s1).on s2) (hg G2 vs zs rs2 rz) hp hx fun d v G3 H3 pd s3 => k d v G3 H3 (hq d pd) ((s1.trans s2).trans s3)
/-- o.m(..) of an instance -/
theorem evp_meth {C : Addr} {m : Str} {E : XK} {fs : List Str} {Pf : List Dat → Prop} (ho : EVP c cs Δ ta fun d => ∃ es, d = .ins C fs es ∧ Pf es) (hm : m ∉ fs) (ha : ∀ es, Pf es → EVA c cs Δ tr PA) (hp : ∀ es ds, Pf es → PA ds → pre c.W (.ins C fs es :: ds))
    (hx : ∀ es ds, Pf es → PA ds → (c.E = E ∧ ∀ x, xp (.ins C fs es :: ds) x → c.X x) ∨ ∀ x, ¬ xp (.ins C fs es :: ds) x) (hq : ∀ es ds d, Pf es → PA ds → post (.ins C fs es :: ds) d → P d) : EVP c cs Δ (tMeth C m (FSp c.K pre post xp) [] E ta tr) P := fun σ G H s I R Q k =>
  ho σ G H s I R _ fun d v G1 H1 ⟨es, e, pf⟩ s1 rd => by
    subst e
    obtain ⟨a, dx, xs, rfl, hg, hl, rs⟩ := rd
    refine ⟨a, dx, _, rfl, s1.i _ _ hg, ?_, ?_⟩
    · cases q : (fs.zip xs).lookup m with
      | none => rfl
      | some v =>
        have := PySem.mem_of_lookup q
        exact absurd (List.of_mem_zip this).1 hm
    · refine ha es pf σ G1 H1 (s.mono s1.g) (s1.inn I) (R.on s1) _ fun ds vs G2 H2 pa s2 rv => ?_
      show FSp c.K pre post xp (V.ref a :: (vs ++ [])) H2 Q E
      rw [List.append_nil]
      exact sp_run (ds := .ins C fs es :: ds) (s2.inn (s1.inn I)) ((R.on s1).on s2) ⟨_, vs, rfl, ⟨a, dx, xs, rfl, s2.g _ _ hg, hl, rs.mono s2.g⟩, rv⟩ (hp es ds pf pa) (hx es ds pf pa) fun d v G3 H3 pd s3 => k d v G3 H3 (hq es ds d pf pa pd) ((s1.trans s2).trans s3)
theorem ev_meth {C : Addr} {m : Str} {E : XK} {fs : List Str} {es : List Dat} (ho : EVD c cs Δ ta (.ins C fs es)) (hm : m ∉ fs) (ha : EVL c cs Δ tr ds) (hp : pre c.W (.ins C fs es :: ds)) (hx : (c.E = E ∧ ∀ x, xp (.ins C fs es :: ds) x → c.X x) ∨ ∀ x, ¬ xp (.ins C fs es :: ds) x)
    (hq : ∀ d, post (.ins C fs es :: ds) d → P d) : EVP c cs Δ (tMeth C m (FSp c.K pre post xp) [] E ta tr) P :=
  evp_meth (Pf := fun x => x = es) (PA := fun x => x = ds) (ho.imp fun d e => ⟨es, e, rfl⟩) hm (fun _ _ => ha) (fun _ _ e1 e2 => by subst e1 e2; exact hp) (fun _ _ e1 e2 => by subst e1 e2; exact hx) fun _ _ d e1 e2 h => by subst e1 e2; exact hq d h
/-- e.f, a property -/
theorem ev_prop {C : Addr} {E : XK} {fs : List Str} {es : List Dat} (ho : EVD c cs Δ ta (.ins C fs es)) (hp : pre c.W [.ins C fs es]) (hx : ∀ x, ¬ xp [.ins C fs es] x) (hq : ∀ d, post [.ins C fs es] d → P d) : EVP c cs Δ (tProp C (FSp c.K pre post xp) [] E ta) P := fun σ G H s I R Q k =>
  ho σ G H s I R _ fun d v G1 H1 e s1 rd => by
    subst e
    obtain ⟨a, dx, xs, rfl, hg, hl, rs⟩ := rd
    refine ⟨a, dx, _, rfl, s1.i _ _ hg, ?_⟩
    exact sp_run (ds := [.ins C fs es]) (s1.inn I) (R.on s1) (Reps.one ⟨a, dx, xs, rfl, hg, hl, rs⟩) hp (.inr hx) fun d v G3 H3 pd s3 => k d v G3 H3 (hq d pd) (s1.trans s3)
/-- e.m(..), e a class, m a classmethod -/
theorem ev_cmeth {C : Addr} {E : XK} (ho : EVD c cs Δ ta (.obj (.ref C))) (ha : EVL c cs Δ tr ds) (hp : pre c.W (.obj (.ref C) :: ds)) (hx : (c.E = E ∧ ∀ x, xp (.obj (.ref C) :: ds) x → c.X x) ∨ ∀ x, ¬ xp (.obj (.ref C) :: ds) x)
    (hq : ∀ d, post (.obj (.ref C) :: ds) d → P d) : EVP c cs Δ (ClX.tCMeth C (FSp c.K pre post xp) E ta tr) P := fun σ G H s I R Q k =>
  ho σ G H s I R _ fun d v G1 H1 e s1 rd => by
    subst e
    refine ⟨rd, ha σ G1 H1 (s.mono s1.g) (s1.inn I) (R.on s1) _ fun ds' vs G2 H2 e2 s2 rv => ?_⟩
    subst e2
    exact sp_run (ds := .obj (.ref C) :: ds') (s2.inn (s1.inn I)) ((R.on s1).on s2) ⟨_, vs, rfl, rfl, rv⟩ hp hx fun d v G3 H3 pd s3 => k d v G3 H3 (hq d pd) ((s1.trans s2).trans s3)
/-- the place of a name -/
def ixOf (f : Str) : List Str → Option Nat
  | [] => none
  | g :: r => if g = f then some 0 else (ixOf f r).map (· + 1)
theorem ixOf_zip {f : Str} {v : V} : ∀ {fs : List Str} {xs : List V} {i : Nat}, ixOf f fs = some i → xs[i]? = some v → (fs.zip xs).lookup f = some v
  | [], xs, i, h, e => by cases h
  | g :: r, [], i, h, e => by simp at e
  | g :: r, x :: xs, i, h, e => by
    unfold ixOf at h
    by_cases q : g = f
    · rw [if_pos q] at h
      cases h
      simp at e
      subst q e
      simp [List.lookup]
    · rw [if_neg q] at h
      cases z : ixOf f r with
      | none => rw [z] at h; cases h
      | some j =>
        rw [z] at h
        cases h
        have := ixOf_zip z (by simpa using e : xs[j]? = some v)
        have q' : (f == g) = false := by simpa using fun e => q e.symm
        simp [List.lookup, q', this]
theorem ixOf_none {f : Str} : ∀ {fs : List Str} {xs : List V}, ixOf f fs = none → (fs.zip xs).lookup f = none
  | [], xs, h => by simp
  | g :: r, [], h => by simp
  | g :: r, x :: xs, h => by
    unfold ixOf at h
    by_cases q : g = f
    · rw [if_pos q] at h; cases h
    · rw [if_neg q] at h
      cases z : ixOf f r with
      | some j => rw [z] at h; cases h
      | none =>
        have := ixOf_none (xs := xs) z
        have q' : (f == g) = false := by simpa using fun e => q e.symm
        simp [List.lookup, q', this]
/-- e.f, an attribute -/
theorem ev_fld {C : Addr} {f : Str} {fs : List Str} {es : List Dat} {i : Nat} (hc : Cls c.K C) (hn : NoAttr c.K C f) (ho : EVD c cs Δ ta (.ins C fs es)) (hf : ixOf f fs = some i) (he : es[i]? = some d) : EVD c cs Δ (tFld c.K ta f) d := fun σ G H s I R Q k =>
  ho σ G H s I R _ fun d' v G1 H1 e s1 rd => by
    subst e
    obtain ⟨a, dx, xs, rfl, hg, hl, rs⟩ := rd
    obtain ⟨v, h1, h2⟩ := rs.get he
    exact ⟨a, C, dx, _, v, rfl, s1.i _ _ hg, hc, hn, ixOf_zip hf h1, k d v G1 H1 rfl s1 h2⟩
/-- .. of an instance that is a cell -/
theorem ev_fldC {C dx l : Addr} {f : Str} {fs : List Str} {es : List Dat} {i j : Nat} (hc : Cls c.K C) (hn : NoAttr c.K C f) (hi : Δ[j]? = some (some (.obj (.ref l)))) (hf : ixOf f fs = some i) (he : es[i]? = some d) : EVD c ((l, .ins C dx fs es) :: cs) Δ (tFld c.K (tVar j) f) d := fun σ G H s I R Q k => by
  obtain ⟨v0, h1, h2⟩ := s.at_ j _ hi
  obtain ⟨gl, no, o, ho, xs, e, hl, rs⟩ := I.cell _ List.mem_cons_self
  obtain ⟨v, h3, h4⟩ := rs.get he
  exact ⟨v0, h1, l, C, dx, _, v, h2, by rw [ho, e], hc, hn, ixOf_zip hf h3, k d v G H rfl (Step.refl I) h4⟩
/-! ### instances in the making -/
theorem putF_zip {f : Str} {v : V} : ∀ {fs : List Str} {xs : List V}, fs.length = xs.length → ixOf f fs = none → putF f v (fs.zip xs) = (fs ++ [f]).zip (xs ++ [v])
  | [], [], _, _ => rfl
  | g :: r, x :: xs, hl, h => by
    unfold ixOf at h
    by_cases q : g = f
    · rw [if_pos q] at h; cases h
    · rw [if_neg q] at h
      have z : ixOf f r = none := by
        cases z : ixOf f r with
        | some j => rw [z] at h; cases h
        | none => rfl
      have := putF_zip (v := v) (by simpa using hl : r.length = xs.length) z
      show putF f v ((g, x) :: r.zip xs) = _
      unfold putF
      rw [if_neg q, this]
      rfl
/-- self.f = e, f new -/
theorem q_put {u : TS} {p : Po} {C dx l : Addr} {f : Str} {fs : List Str} {es : List Dat} {j : Nat} (hc : Cls c.K C) (hn : NoAttr c.K C f) (hj : Δ[j]? = some (some (.obj (.ref l)))) (h : EVP c ((l, .ins C dx fs es) :: cs) Δ te P) (hf : ixOf f fs = none) (hz : fs.length < 1000)
    (k : ∀ d, P d → STS c ((l, .ins C dx (fs ++ [f]) (es ++ [d])) :: cs) Δ u p) : STS c ((l, .ins C dx fs es) :: cs) Δ (tSeq (sFld c.K (tVar j) te f) u) p := fun F G0 H0 σ G H D cu s R e =>
  h σ G H s cu.inn (R.on cu.st) _ fun d y G2 H2 pd s2 rd => by
    have cu2 := cu.on s2
    have s' := s.mono s2.g
    obtain ⟨v0, h1, h2⟩ := s'.at_ j _ hj
    obtain ⟨gl, no, o, ho, xs, eo, hl, rs⟩ := cu2.inn.cell _ List.mem_cons_self
    refine ⟨v0, h1, l, C, dx, _, h2, by rw [ho, eo], hc, hn, ?_, ?_⟩
    · rw [List.length_zip, hl, Nat.min_self, ← hl]; exact hz
    · exact k d pd F G0 H0 σ G2 _ D (cu2.wr (k' := .ins C dx (fs ++ [f]) (es ++ [d])) ⟨xs ++ [y], congrArg (HO.ins C dx) (putF_zip hl hf), by simp [hl], rs.app (Reps.one rd)⟩) s' R e
theorem s_put {p : Po} {C dx l : Addr} {f : Str} {fs : List Str} {es : List Dat} {j : Nat} (hc : Cls c.K C) (hn : NoAttr c.K C f) (hj : Δ[j]? = some (some (.obj (.ref l)))) (h : EVP c ((l, .ins C dx fs es) :: cs) Δ te P) (hf : ixOf f fs = none) (hz : fs.length < 1000)
    (k : ∀ d, P d → p.nx ((l, .ins C dx (fs ++ [f]) (es ++ [d])) :: cs) Δ) : STS c ((l, .ins C dx fs es) :: cs) Δ (sFld c.K (tVar j) te f) p := fun F G0 H0 σ G H D cu s R e =>
  q_put (u := tNext) hc hn hj h hf hz (fun d pd => s_next (k d pd) (Le.refl _)) F G0 H0 σ G H D cu s R e
/-- __init__'s promise: from data the fields -/
def ISp (K : PySem.W.Frag) (C : Addr) (pre : Wld → List Dat → Prop) (fs : List Str) (post : List Dat → List Dat → Prop) (xp : List Dat → Exc → Prop) : Sp := fun vs H Q E =>
  ∃ (W : Wld) (G H0 : Hp) (ds : List Dat) (x dx : Addr) (ws : List V), vs = .ref x :: ws ∧ H = upd (upd H0 dx (.own x)) x (.ins C dx []) ∧ H0 x = none ∧ H0 dx = none ∧ dx ≠ x ∧ Inn K W [] G H0 ∧ Reps K G ds ws ∧ pre W ds ∧
    (∀ es xs G2 H2, post ds es → Step W G H0 G2 H2 → G2 x = none → H2 x = some (.ins C dx (fs.zip xs)) → fs.length = xs.length → Reps K G2 es xs → Q .non H2) ∧ ∀ e cls dd G2 H2, xp ds e → Step W G H0 G2 H2 → RepX K G2 H2 e cls dd → E cls dd H2
theorem ISp.len {K : PySem.W.Frag} {C : Addr} {pre : Wld → List Dat → Prop} {fs : List Str} {post : List Dat → List Dat → Prop} {xp : List Dat → Exc → Prop} {n : Nat} (hn : ∀ W ds, pre W ds → ds.length + 1 = n) : ∀ vs H Q E, ISp K C pre fs post xp vs H Q E → vs.length = n := fun vs H Q E ⟨W, G, H0, ds, x, dx, ws, e, _, _, _, _, _, r, p, _⟩ => by
  rw [e, List.length_cons, r.len]; exact hn W ds p
theorem ISp.body {K : PySem.W.Frag} {C : Addr} {pre : Wld → List Dat → Prop} {fs : List Str} {post : List Dat → List Dat → Prop} {xp : List Dat → Exc → Prop} {N : List Str} {t : TS} {vs : List V} {H : Hp} {Q : VK} {E : XK} (h : ISp K C pre fs post xp vs H Q E)
    (b : ∀ W ds x dx, pre W ds → STS ⟨K, W, E, xp ds⟩ [(x, .ins C dx [] [])] ((some (.obj (.ref x)) :: ds.map some) ++ List.replicate (N.length - (ds.length + 1)) none) t { ret := fun _ => False, nx := fun cs _ => ∃ es, cs = [(x, .ins C dx fs es)] ∧ post ds es }) : t { nx := fun _ H' => Q .non H', rt := Q } (L2.start N vs) H := by
  obtain ⟨W, G, H0, ds, x, dx, ws, rfl, rfl, hx, hd, ne, I, r, p, q, xq⟩ := h
  have s1 := Step.aside I (o := .own x) hd
  have I1 := s1.inn I
  have hx1 : upd H0 dx (.own x) x = none := by rw [upd_ne ne.symm]; exact hx
  have s2 := Step.aside I1 (o := .ins C dx []) hx1
  have st := s1.trans s2
  have I2 := s2.inn I1
  have gx : G x = none := I.ex.none_of hx
  have nx : ¬ W.own x := fun z => W.has _ I.ok x z hx
  have sg : Sig K G (L2.start N (.ref x :: ws)) ((some (.obj (.ref x)) :: ds.map some) ++ List.replicate (N.length - (ds.length + 1)) none) :=
    sig_start (N := N) (ds := .obj (.ref x) :: ds) ⟨_, ws, rfl, rfl, r⟩
  refine b W ds x dx p G G H0 _ G _ _ ⟨Ex.refl _, st, ⟨I2.ex, I2.ok, I2.no, by simp, fun y hy => ?_⟩, fun y hy => ?_⟩ sg (fun e cls dd G2 H2 hx s2 hr => xq e cls dd G2 H2 hx s2 hr) ⟨fun _ _ _ _ z => z.elim, fun cs Δ σ G' H' ⟨es, ec, pe⟩ cu s => ?_, fun _ _ _ _ _ z => z.elim, fun _ _ _ _ _ z => z.elim⟩
  · rw [List.mem_singleton] at hy
    subst hy
    exact ⟨gx, nx, _, upd_same, [], rfl, rfl, rfl⟩
  · rw [List.mem_singleton] at hy
    subst hy
    exact hx
  · subst ec
    obtain ⟨g1, n1, o, ho, xs, eo, hl, rs⟩ := cu.inn.cell _ List.mem_cons_self
    exact q es xs G' H' pe cu.st g1 (by rw [ho, eo]) hl rs
/-- C(..) -/
theorem mk_run {C : Addr} {fs : List Str} {postI : List Dat → List Dat → Prop} {E : XK} {G H : Hp} {ws : List V} {x dx : Addr} {Q : VK} (I : Inn c.K c.W cs G H) (R : Raises c G H) (r : Reps c.K G ds ws) (hp : pre c.W ds) (hxp : (c.E = E ∧ ∀ x, xp ds x → c.X x) ∨ ∀ x, ¬ xp ds x)
    (hx : H x = none) (hd : H dx = none) (ne : dx ≠ x) (q : ∀ d v G2 H2, (∃ es, d = .ins C fs es ∧ postI ds es) → Step c.W G H G2 H2 → Rep c.K G2 d v → Q v H2) :
    ISp c.K C pre fs postI xp (.ref x :: ws) (upd (upd H dx (.own x)) x (.ins C dx [])) (fun v H2 => v = .non ∧ Q (.ref x) H2) E := by
  refine ⟨c.W, G, H, ds, x, dx, ws, rfl, rfl, hx, hd, ne, I.nil, r, hp, fun es xs G2 H2 pe s2 gx h2 hl rs => ⟨rfl, ?_⟩, fun e cls dd G2 H2 h s2 hr => ?_⟩
  · have e : Ex G2 (upd G2 x (.ins C dx (fs.zip xs))) := Ex.new gx
    refine q (.ins C fs es) _ (upd G2 x (.ins C dx (fs.zip xs))) H2 ⟨es, rfl, pe⟩ ⟨s2.g.trans e, fun a u z => ?_, s2.ok, s2.h, fun a ha ga => ?_⟩ ⟨x, dx, xs, rfl, upd_same, hl, rs.mono e⟩
    · by_cases w : a = x
      · subst w; rw [upd_same] at z; cases z; exact h2
      · rw [upd_ne w] at z; exact s2.i a u z
    · rw [upd_ne (fun w => ha (by rw [w]; exact hx))]
      exact s2.d a ha ga
  · rcases hxp with ⟨e, hxp⟩ | hxp
    · exact e ▸ R _ cls dd G2 H2 (hxp _ h) s2 hr
    · exact (hxp _ h).elim
theorem evp_make {C : Addr} {fs : List Str} {postI : List Dat → List Dat → Prop} {E : XK} {dvs : List V} {dds : List Dat} (hd : ∀ G, Reps c.K G dds dvs) (ha : EVA c cs Δ tr PA) (hp : ∀ ds, PA ds → pre c.W (ds ++ dds)) (hx : ∀ ds, PA ds → (c.E = E ∧ ∀ x, xp (ds ++ dds) x → c.X x) ∨ ∀ x, ¬ xp (ds ++ dds) x)
    (hq : ∀ ds es, PA ds → postI (ds ++ dds) es → P (.ins C fs es)) : EVP c cs Δ (tMake C (ISp c.K C pre fs postI xp) dvs E tr) P := fun σ G H s I R Q k =>
  ha σ G H s I R _ fun ds vs G1 H1 pa s1 rs x dx h1 h2 ne => mk_run (s1.inn I) (R.on s1) (rs.app (hd G1)) (hp ds pa) (hx ds pa) h1 h2 ne fun d v G2 H2 ⟨es, e, pe⟩ s2 => by
    subst e
    exact k _ v G2 H2 (hq ds es pa pe) (s1.trans s2)
theorem ev_make {C : Addr} {fs : List Str} {postI : List Dat → List Dat → Prop} {E : XK} {dvs : List V} {dds : List Dat} (hd : ∀ G, Reps c.K G dds dvs) (ha : EVL c cs Δ tr ds) (hp : pre c.W (ds ++ dds)) (hx : (c.E = E ∧ ∀ x, xp (ds ++ dds) x → c.X x) ∨ ∀ x, ¬ xp (ds ++ dds) x)
    (hq : ∀ es, postI (ds ++ dds) es → P (.ins C fs es)) : EVP c cs Δ (tMake C (ISp c.K C pre fs postI xp) dvs E tr) P :=
  evp_make hd ha (fun _ e => by subst e; exact hp) (fun _ e => by subst e; exact hx) fun _ es e h => by subst e; exact hq es h
theorem ev_makeN {C : Addr} {fs : List Str} {postI : List Dat → List Dat → Prop} {E : XK} {n m : Nat} {gV : List V → List V → List V} {es1 fs1 : List Dat} (ha : EVL c cs Δ tr es1) (hk : EVL c cs Δ tk fs1) (h1 : es1.length = n) (h2 : fs1.length = m)
    (hg : ∀ G x vs zs, Reps c.K G es1 vs → Reps c.K G fs1 zs → ∃ ws, gV (.ref x :: vs) zs = .ref x :: ws ∧ Reps c.K G ds ws) (hp : pre c.W ds) (hx : (c.E = E ∧ ∀ x, xp ds x → c.X x) ∨ ∀ x, ¬ xp ds x) (hq : ∀ es, postI ds es → P (.ins C fs es)) :
    EVP c cs Δ (tMakeN C n m (ISp c.K C pre fs postI xp) gV E tr tk) P := fun σ G H s I R Q k =>
  ha σ G H s I R _ fun es' vs G1 H1 e1 s1 rs => hk σ G1 H1 (s.mono s1.g) (s1.inn I) (R.on s1) _ fun fs' zs G2 H2 e2 s2 rz => by
    subst e1 e2
    refine ⟨by rw [rs.len, h1], by rw [rz.len, h2], fun x dx hx0 hd0 ne => ?_⟩
    obtain ⟨ws, ew, rw_⟩ := hg G2 x vs zs (rs.mono s2.g) rz
    rw [ew]
    exact mk_run (s2.inn (s1.inn I)) ((R.on s1).on s2) rw_ hp hx hx0 hd0 ne fun d v G3 H3 ⟨es, e, pe⟩ s3 => by
      subst e
      exact k _ v G3 H3 (hq es pe) ((s1.trans s2).trans s3)
end
end DV

set_option autoImplicit false
set_option linter.all false
set_option maxRecDepth 100000
set_option maxHeartbeats 2000000
/-! Promises of defs that are called while no repr is under way (guards known): the layer's calls once more, with that known. -/
namespace DV
open PySem PySem.Spec PyProof.Rows L2

/-- room, and no guard under way -/
structure RoomG (k : Nat) (A : Around) : Prop where
  r : Room k A
  g : A.guards = some []
theorem RoomG.le {j k : Nat} {A : Around} (h : RoomG k A) (l : j ≤ k) : RoomG j A := ⟨h.r.mono l, h.g⟩
theorem RoomG.in1 {k : Nat} {A : Around} (h : RoomG (k + 1) A) : RoomG k A.in1 := ⟨h.r.in1, h.g⟩
theorem guards_make {A : Around} {a : Args} : (A.under (.builtin "type.__call__" a)).guards = A.guards := by
  have e : (Code.builtin "type.__call__" a).guards = [] := by
    have q : (Code.builtin "type.__call__" a).isGuard = false := by
      show guardIds.contains "type.__call__" = false
      decide +kernel
    unfold Code.guards
    rw [q]; rfl
  show pushGuards (Code.builtin "type.__call__" a).guards A.guards = A.guards
  rw [e]; rfl
theorem RoomG.make {k : Nat} {A : Around} (h : RoomG (k + 1) A) (C : Addr) (us : List Value) (kw : List (Str × Value)) : RoomG k (A.under (.builtin "type.__call__" ⟨.ref C :: us, kw⟩)) := ⟨h.r.make C us kw, guards_make.trans h.g⟩

/-- a def's promise: FnOk's, where no guard is under way -/
structure FnG (P : Program) (w : World) (K : PySem.W.Frag) (mg : Str → Option Value) (base : Heap) (CX : CXT) (k : Nat) (f : Addr) (fd : FuncData) (ps : List Str) (sp : Sp) : Prop where
  len : ∀ vs H Q E, sp vs H Q E → vs.length = ps.length
  go : ∀ (A : Around) (fr : List Env) (s : Shared) (H : Hp) (ar : Args) (us : List Value) (vs : List V) (Q : VK) (E : XK), RoomG k A → Env0 P w K mg base A fr s H → BindsTo s fd ar (ps.zip us) → Vals vs us → sp vs H Q E →
    codeAny (model P w) A (.call (.ref f) ar) (CR CX fr P w H s Q E) s
theorem FnG.of {P : Program} {w : World} {K : PySem.W.Frag} {mg : Str → Option Value} {base : Heap} {CX : CXT} {k : Nat} {f : Addr} {fd : FuncData} {ps : List Str} {sp : Sp} (F : FnOk P w K mg base CX k f fd ps sp) : FnG P w K mg base CX k f fd ps sp :=
  ⟨F.len, fun A fr s H ar us vs Q E h => F.run A fr s H ar us vs Q E h.r⟩

section
variable {P : Program} {w : World} {K : PySem.W.Frag} {mg : Str → Option Value} {base : Heap} {CX : CXT} {x qual : Str} {params : Arguments} {body : List Stmt} {scope : Scope} {dvs : List V} {kws : List (Str × V)} {f : Addr} {fd : FuncData} {N ps : List Str} {k : Nat} {sp : Sp}
/-- a def of the text, by its body -/
theorem fn_g (F : FunD K x qual params body scope dvs kws f fd) (S : FnScope N ps scope) (len : ∀ vs H Q E, sp vs H Q E → vs.length = ps.length)
    (hb : ∀ (cdv : Value) (A : Around) (fr : List Env) (s : Shared) (H : Hp) (vs : List V) (Q : VK) (E : XK), RoomG k (A.deeper (envOfC qual scope s.heap.objs.size f cdv)) → sp vs H Q E →
      ∃ t, PSs (cxOf CX P w K mg base N qual scope f cdv A fr s H E) body t ∧ t { nx := fun _ H' => Q .non H', rt := Q } (L2.start N vs) H) : FnG P w K mg base CX (k + 1) f fd ps sp := by
  obtain ⟨oc, od, dV, kV, doc, pm, an, cdv, ct, osl, rfl, lk, hcd, _, _⟩ := F.ex
  refine ⟨len, fun A fr s H ar us vs Q E hR e0 bd rv hs => ?_⟩
  have up : ∀ b o, base.get? b = some o → s.heap.get? b = some o := fun b o e => (e0.bs b o e).1
  have inK : K.In s.heap := e0.mod.kin.keeps up
  have nl := e0.mod.nolimit.keeps up
  have kinds : ∀ z ∈ ps.zip us, scope.names.lookup z.1 = some .local ∨ (scope.names.lookup z.1 = some .cell ∧ ((cellsFrom (s.heap.objs.size + 1) scope.names []).lookup z.1).isSome = true) := by
    rintro ⟨n, v⟩ hz
    rcases S.par n (List.of_mem_zip hz).1 with a | a
    · exact Or.inl a
    · exact Or.inr ⟨a, PySem.W.cellsFrom_some _ _ _ (Or.inl a)⟩
  have hlen := len _ _ _ _ hs
  apply codeAny_call_function hR.r.depth (inK _ _ lk) rfl S.co S.gen rfl (PySem.W.codeRec_of inK hcd)
  apply bd
  apply wpAny_newFunctionEnv_cells S.kind kinds
  rintro _ rfl s1 ic
  refine ⟨nl.keeps ic.toInCall.keep, codeAny_func ?_⟩
  have hR' : RoomG k (A.deeper (envOfC qual scope s.heap.objs.size f cdv)) := ⟨hR.r.deeper _, hR.g⟩
  obtain ⟨t, pt, qt⟩ := hb cdv A fr s H vs Q E hR' hs
  have J0 := inv_start (CX := CX) (P := P) (w := w) (E := E) S hR.r.hd e0 hlen rv ic
  refine wpAny_mono (pt.run [] s1 _ H _ J0 qt) ?_ fun _ _ z => z
  intro fl s' z
  cases fl with
  | next =>
    obtain ⟨σ', H', J, q⟩ := z
    exact ⟨.non, H', J.os, J.bare, J.base, J.hok, rfl, q⟩
  | ret u =>
    obtain ⟨v, σ', H', J, r, q⟩ := z
    exact ⟨v, H', J.os, J.bare, J.base, J.hok, r, q⟩
  | brk =>
    obtain ⟨_, _, _, q⟩ := z
    exact q.elim
  | cont =>
    obtain ⟨_, _, _, q⟩ := z
    exact q.elim
/-- how written arguments and keywords are bound where no default stands -/
theorem kb_plain (F : FunD K x qual params body scope [] kws f fd) (n : Nat) (ks : List Str) (g : {α : Type} → List α → List α → List α) (hrel : ∀ {vs zs : List V} {us ws : List Value}, Vals vs us → Vals zs ws → Vals (g vs zs) (g us ws))
    (h : ∀ (kV doc pm : Value) (an : Option Addr) (cdv ct : Value) (us ws : List Value), us.length = n → ws.length = ks.length → bindArgs (PySem.W.fnOf x qual params body scope .none kV doc pm an cdv ct) ⟨us, ks.zip ws⟩ = pure (ps.zip (g us ws))) :
    KBn K fd ps n ks (fun us ws => g us ws) (fun vs zs => g vs zs) := by
  obtain ⟨oc, od, dV, kV, doc, pm, an, cdv, ct, osl, rfl, lk, hcd, hD, hK⟩ := F.ex
  have e : dV = .none := by
    rcases hD with ⟨_, e⟩ | ⟨e, _⟩
    · exact e
    · exact absurd rfl e
  subst e
  exact ⟨fun s us ws _ l1 l2 => .of_eq (h kV doc pm an cdv ct us ws l1 l2), fun a b => hrel a b⟩
end

/-! ### calling -/
/-- how a call comes back -/
abbrev OutG (X : Cx) (pins : List (Addr × Obj)) (σ : L2.St) (Q : VK) : Result → Shared → Prop := fun r s' => match r with
  | .ok (.ret v) => EP X pins σ Q v s'
  | .ok _ => False
  | .error e => X.xe e s'
/-- what calling a value with written arguments and keywords ks does -/
def CanG (X : Cx) (f : Value) (ks : List Str) (r : List V → List V → Hp → VK → Prop) : Prop :=
  ∀ (pins : List (Addr × Obj)) (σ : L2.St) (H : Hp) (s : Shared) (Q : VK) (us ws : List Value) (vs zs : List V), Inv X pins σ H s → Vals vs us → Vals zs ws → r vs zs H Q →
    codeAny (model X.prog X.w) X.A (.call f ⟨us, ks.zip ws⟩) (OutG X pins σ Q) s
/-- the reading of a def's call, of a class's -/
def rFn (n m : Nat) (sp : Sp) (gV : List V → List V → List V) (E : XK) : List V → List V → Hp → VK → Prop := fun vs zs H Q => vs.length = n ∧ zs.length = m ∧ sp (gV vs zs) H Q E
def rMk (C : Addr) (n m : Nat) (sp : Sp) (gV : List V → List V → List V) (E : XK) : List V → List V → Hp → VK → Prop := fun vs zs H Q => vs.length = n ∧ zs.length = m ∧
  ∀ x dx, H x = none → H dx = none → dx ≠ x → sp (gV (.ref x :: vs) zs) (upd (upd H dx (.own x)) x (.ins C dx [])) (fun v H2 => v = .non ∧ Q (.ref x) H2) E
section
variable {X : Cx} {CX : CXT} {k n : Nat} {f C : Addr} {fd : FuncData} {ps ks : List Str} {sp : Sp} {E : XK} {g : List Value → List Value → List Value} {gV : List V → List V → List V}
theorem backG {pins : List (Addr × Obj)} {σ : L2.St} {H : Hp} {s s' : Shared} {Q : VK} {fl : Flow} (I : Inv X pins σ H s) (h : CR CX X.stack X.prog X.w H s Q E (.ok fl) s') : ∃ u, fl = .ret u ∧ EP X pins σ Q u s' := by
  cases fl with
  | ret u => exact ⟨u, rfl, I.after h⟩
  | next => exact h.elim
  | brk => exact h.elim
  | cont => exact h.elim
/-- a def -/
theorem can_fn (F : FnG X.prog X.w X.K X.mg X.base CX k f fd ps sp) (hr : RoomG k X.A) (hb : KBn X.K fd ps n ks g gV) (hx : Passes CX X E) : CanG X (.ref f) ks (rFn n ks.length sp gV E) := by
  rintro pins σ H s Q us ws vs zs I rv rz ⟨l1, l2, h⟩
  have b := hb.to s us ws I.kIn (rv.length.symm.trans l1) (rz.length.symm.trans l2)
  refine codeAny_mono (F.go X.A X.stack s H ⟨us, ks.zip ws⟩ _ _ Q E hr I.env0 b (hb.rel rv rz) h) ?_
  intro r s' z
  cases r with
  | error e => exact hx pins σ H s e s' I z
  | ok fl =>
    obtain ⟨u, e, q⟩ := backG I z
    subst e
    exact q
/-- a class: a new instance, then its __init__ -/
theorem can_make (M : Mk X.K C f) (F : FnG X.prog X.w X.K X.mg X.base CX k f fd ps sp) (hr : RoomG (k + 1) X.A) (hb : KBn X.K fd ps (n + 1) ks g gV) (hx : Passes CX X E) : CanG X (.ref C) ks (rMk C n ks.length sp gV E) := by
  rintro pins σ H s Q us ws vs zs I rv rz ⟨l1, l2, h⟩
  have hq := h (s.heap.objs.size + 1) s.heap.objs.size (I.hok.fresh (Nat.le_succ _)) (I.hok.fresh (Nat.le_refl _)) (Nat.ne_of_lt (Nat.lt_succ_self _))
  have J := Inv.made (C := C) I
  have rv' : Vals (V.ref (s.heap.objs.size + 1) :: vs) (Value.ref (s.heap.objs.size + 1) :: us) := .cons rfl rv
  have b := hb.to _ (Value.ref (s.heap.objs.size + 1) :: us) ws J.kIn (by rw [List.length_cons, ← rv.length, l1]) (rz.length.symm.trans l2)
  refine make_map (f := f) I.kIn M.makes M.init (beq_iff_eq.mp M.fn) ?_
  refine codeAny_mono (F.go _ X.stack _ _ ⟨Value.ref (s.heap.objs.size + 1) :: us, ks.zip ws⟩ _ _ _ E (hr.make C us _) (J.env0.make C us _) b (hb.rel rv' rz) hq) ?_
  intro r s' z
  cases r with
  | error e => exact hx pins σ _ _ e s' J z
  | ok fl =>
    obtain ⟨u, e, v, H', J', r, e2, q⟩ := backG J z
    subst e e2
    exact ⟨r, .ref (s.heap.objs.size + 1), H', J', rfl, q⟩
end

/-- the reading of f(e, .., k = v, ..) -/
def tG (r : List V → List V → Hp → VK → Prop) (t tk : TA) : TE := fun σ H Q => t σ H fun vs H1 => tk σ H1 fun zs H2 => r vs zs H2 Q
/-- .. of o.m(..), an instance's method -/
def tGM (C : Addr) (m : Str) (r : List V → List V → Hp → VK → Prop) (to : TE) (t tk : TA) : TE := fun σ H Q => to σ H fun x H1 => ∃ a dx fs, x = .ref a ∧ H1 a = some (.ins C dx fs) ∧ fs.lookup m = none ∧ t σ H1 fun vs H2 => tk σ H2 fun zs H3 => r (x :: vs) zs H3 Q
section
variable {X : Cx} {ks : List Str} {r : List V → List V → Hp → VK → Prop} {x m : Str} {f C g : Addr} {p pos apos : Pos} {e o : Expr} {es : List Expr} {kws : List Keyword} {t tk : TA} {to : TE}
/-- written arguments, then keywords -/
theorem kwG {pins : List (Addr × Obj)} {σ : L2.St} {H : Hp} {s : Shared} {Q : VK} {fv : Value} {vs : List V} {us : List Value} (c : CanG X fv ks r) (hkw : PK X kws tk) (hks : (backToKw pos (keywordEach kws X.env)).filterMap (·.1) = ks) (I : Inv X pins σ H s) (rv : Vals vs us) (h : tk σ H fun zs H2 => r vs zs H2 Q) :
    wpAny (model X.prog X.w) X.A (evalAll ((backToKw pos (keywordEach kws X.env)).map (·.2))) (fun vs s₂ => X.K.In s₂.heap ∧ wpAny (model X.prog X.w) X.A (call fv us (((backToKw pos (keywordEach kws X.env)).filterMap (·.1)).zip vs)) (EP X pins σ Q) X.xe s₂) X.xe s := by
  refine thn (hkw.run pos pins s σ H _ I h) ?_
  rintro ws s2 ⟨zs, H2, I2, rz, q⟩
  rw [hks]
  exact ⟨I2.kIn, wpAny_call (c pins σ H2 s2 Q us ws vs zs I2 rv rz q)⟩
/-- f(e, .., k = v, ..), f a def or a class of the module -/
theorem pe_g (hg : Gl X x) (hm : X.mg x = some (.ref f)) (hk : PySem.W.keepIn X.K (.ref f) = true) (c : CanG X (.ref f) ks r) (ha : PA X (e :: es) t) (hkw : PK X kws tk)
    (hall : (backToKw pos (keywordEach kws X.env)).all (·.1.isSome) = true := by rfl) (hks : (backToKw pos (keywordEach kws X.env)).filterMap (·.1) = ks := by rfl) (hdb : (x == ("__debug__" : Str)) = false := by decide)
    (he : starEach (e :: es) X.env = (false, eval e X.env) :: starEach es X.env := by rfl) (hpl : ((backTo pos (starEach (e :: es) X.env)).any (·.1) || (backToKw pos (keywordEach kws X.env)).any (·.1.isNone)) = false := by rfl) :
    PE X (.Call (.Name x p) (e :: es) kws pos) (tG r t tk) := by
  constructor
  intro pins s σ H Q I h
  apply wpAny_Call_Name_kw
  apply ld_glob I hg hm _ hdb
  refine PySem.W.callWith_KW (h₀ := X.base) I.ok.mod.kin hk hall (thn (ha.run pos pins s σ H _ I h) ?_) hpl he
  rintro us s1 ⟨vs, H1, I1, rv, q⟩
  exact kwG c hkw hks I1 rv q
theorem pe_g0 (hg : Gl X x) (hm : X.mg x = some (.ref f)) (hk : PySem.W.keepIn X.K (.ref f) = true) (c : CanG X (.ref f) ks r) (hkw : PK X kws tk)
    (hall : (backToKw pos (keywordEach kws X.env)).all (·.1.isSome) = true := by rfl) (hks : (backToKw pos (keywordEach kws X.env)).filterMap (·.1) = ks := by rfl) (hdb : (x == ("__debug__" : Str)) = false := by decide)
    (hpl : ((backTo pos (starEach [] X.env)).any (·.1) || (backToKw pos (keywordEach kws X.env)).any (·.1.isNone)) = false := by rfl) :
    PE X (.Call (.Name x p) [] kws pos) (tG r tNil tk) := by
  constructor
  intro pins s σ H Q I h
  apply wpAny_Call_Name_kw
  apply ld_glob I hg hm _ hdb
  exact PySem.W.callWith_KW0 (h₀ := X.base) I.ok.mod.kin hk hall (kwG (us := []) c hkw hks I .nil h) hpl
/-- o.m(e, .., k = v, ..) -/
theorem pe_gm {pl : Sem Bool} (he : PE X o to) (hc : Cls X.K C) (hm : Meth X.K C m g) (c : CanG X (.ref g) ks r) (ha : PA X (e :: es) t) (hkw : PK X kws tk)
    (hall : (backToKw pos (keywordEach kws X.env)).all (·.1.isSome) = true := by rfl) (hks : (backToKw pos (keywordEach kws X.env)).filterMap (·.1) = ks := by rfl)
    (hst : starEach (e :: es) X.env = (false, eval e X.env) :: starEach es X.env := by rfl) (hpl : ((backTo pos (starEach (e :: es) X.env)).any (·.1) || (backToKw pos (keywordEach kws X.env)).any (·.1.isNone)) = false := by rfl)
    (ht : eval (.Call (.Attribute o m apos) (e :: es) kws pos) X.env = (eval o X.env >>= fun ov => standAt apos.atName >>= fun _ => holding [ov] (getMethod ov m pl) >>= fun p => callWith pos p.1 p.2 (backTo pos (starEach (e :: es) X.env)) (backToKw pos (keywordEach kws X.env))) := by rfl) :
    PE X (.Call (.Attribute o m apos) (e :: es) kws pos) (tGM C m r to t tk) := by
  constructor
  intro pins s σ H Q I h
  refine PySem.W.methodCall_KW (pl := pl) (thn (he.run pins s σ H _ I h) ?_) ht
  rintro u s1 ⟨x, H1, I1, rx, a, dx, fs, rfl, ea, l, q⟩
  cases (show u = Value.ref a from rx)
  apply getmeth_ok I1 ea hc hm l
  refine PySem.W.callWith_KW (h₀ := X.base) I.ok.mod.kin hm.kp hall (thn (ha.run pos pins s1 σ H1 _ I1 q) ?_) hpl hst
  rintro us s2 ⟨vs, H2, I2, rv, q2⟩
  have rv2 : Vals (V.ref a :: vs) (Value.ref a :: us) := .cons rfl rv
  exact kwG (us := [.ref a] ++ us) c hkw hks I2 rv2 q2
theorem pe_gm0 {pl : Sem Bool} (he : PE X o to) (hc : Cls X.K C) (hm : Meth X.K C m g) (c : CanG X (.ref g) ks r) (hkw : PK X kws tk)
    (hall : (backToKw pos (keywordEach kws X.env)).all (·.1.isSome) = true := by rfl) (hks : (backToKw pos (keywordEach kws X.env)).filterMap (·.1) = ks := by rfl)
    (hpl : ((backTo pos (starEach [] X.env)).any (·.1) || (backToKw pos (keywordEach kws X.env)).any (·.1.isNone)) = false := by rfl)
    (ht : eval (.Call (.Attribute o m apos) [] kws pos) X.env = (eval o X.env >>= fun ov => standAt apos.atName >>= fun _ => holding [ov] (getMethod ov m pl) >>= fun p => callWith pos p.1 p.2 (backTo pos (starEach [] X.env)) (backToKw pos (keywordEach kws X.env))) := by rfl) :
    PE X (.Call (.Attribute o m apos) [] kws pos) (tGM C m r to tNil tk) := by
  constructor
  intro pins s σ H Q I h
  refine PySem.W.methodCall_KW (pl := pl) (thn (he.run pins s σ H _ I h) ?_) ht
  rintro u s1 ⟨x, H1, I1, rx, a, dx, fs, rfl, ea, l, q⟩
  cases (show u = Value.ref a from rx)
  apply getmeth_ok I1 ea hc hm l
  have rv2 : Vals [V.ref a] [Value.ref a] := .cons rfl .nil
  exact PySem.W.callWith_KW0 (h₀ := X.base) I.ok.mod.kin hm.kp hall (kwG (us := [.ref a] ++ []) c hkw hks I1 rv2 q) hpl
end
end DV

set_option autoImplicit false
set_option linter.all false
set_option maxRecDepth 100000
set_option maxHeartbeats 2000000
namespace DV
open PySem PySem.Spec PyProof.Rows L2
/-! ### properties and classmethods, where no guard is under way -/
def tPropG (C : Addr) (sp : Sp) (E : XK) (to : TE) : TE := fun σ H Q => to σ H fun x H1 => ∃ a dx fs, x = .ref a ∧ H1 a = some (.ins C dx fs) ∧ sp [.ref a] H1 Q E
section
variable {X : Cx} {CX : CXT} {k : Nat} {C p g : Addr} {f m : Str} {mc : Value} {fd : FuncData} {ps ks : List Str} {sp : Sp} {E : XK} {e o : Expr} {es : List Expr} {kws : List Keyword} {pos apos : Pos} {to : TE} {t tk : TA} {r : List V → List V → Hp → VK → Prop} {gg : List Value → List Value → List Value} {gV : List V → List V → List V}
theorem pe_propG (he : PE X e to) (c : Cls X.K C) (hp : PropOf X.K C f p g) (F : FnG X.prog X.w X.K X.mg X.base CX k g fd ps sp) (hr : RoomG (k + 1) X.A) (hb : KBn X.K fd ps 1 [] gg gV) (h1 : ∀ v, gV [v] [] = [v]) (hx : Passes CX X.nox E) (hab : attributeBase e f X.env (eval e X.env) = eval e X.env := by rfl) :
    PE X (.Attribute e f pos) (tPropG C sp E to) := by
  constructor
  intro pins s σ H Q I h
  refine attr_of hab (thn (he.run pins s σ H _ I h) ?_)
  rintro u s1 ⟨x, H1, I1, rx, a, dx, fs, rfl, ea, q⟩
  cases (show u = Value.ref a from rx)
  obtain ⟨mA, O, _⟩ := ins_get I1.hok ea
  obtain ⟨od, J, _⟩ := O.look
  obtain ⟨rest, hrec⟩ := hp.rec_
  have J1 := I1.tok (s1.toks + 1)
  have isC : (PySem.W.clsIn X.K C).isSome = true := by
    obtain ⟨cd, h, _⟩ := PySem.W.any_some c.hd
    rw [h]; rfl
  have pg := PySem.W.plainGet_of (c.get f)
  refine PySem.W.get_bind I1.kIn J pg.1 (PySem.W.findObj_data isC hp.at_ hp.get hp.tak) pg.2 (wpAny_call (PySem.W.prop_get (s := { s1 with toks := s1.toks + 1 }) I1.kIn hrec ?_))
  have b := hb.to { s1 with toks := s1.toks + 1 } [.ref a] [] I1.kIn rfl rfl
  have rv1 : Vals [V.ref a] [Value.ref a] := .cons rfl .nil
  have rv := hb.rel rv1 (.nil (F := RelV))
  rw [h1] at rv
  refine codeAny_mono (F.go X.A.in1 X.stack { s1 with toks := s1.toks + 1 } H1 ⟨[.ref a], []⟩ _ _ Q E hr.in1 J1.env0.in1 b rv q) ?_
  intro r s' z
  cases r with
  | error er => exact (hx pins σ H1 _ er s' (J1.wish _) z).elim
  | ok fl =>
    obtain ⟨u, e2, v, H', J3, rv3, q3⟩ := backG J1 z
    subst e2
    show wpAny _ _ (handedOut u) _ _ _
    rw [PySem.W.handedOut_of (handed_of rv3)]
    exact wpAny_pure ⟨v, H', J3, rv3, q3⟩
/-- C.m(..), m a classmethod -/
def tGC (C : Addr) (r : List V → List V → Hp → VK → Prop) (to : TE) (t tk : TA) : TE := fun σ H Q => to σ H fun x H1 => x = .ref C ∧ t σ H1 fun vs H2 => tk σ H2 fun zs H3 => r (.ref C :: vs) zs H3 Q
theorem runC {pins : List (Addr × Obj)} {σ : L2.St} {H : Hp} {s : Shared} {q : Addr} {Q : VK} {us ws : List Value} {vs zs : List V} (cn : CanG X (.ref g) ks r) (I : Inv X ((q, PySem.W.methodObj (.ref g) (.ref C)) :: pins) σ H s) (rv : Vals vs us) (rz : Vals zs ws) (h : r (.ref C :: vs) zs H Q) :
    wpAny (model X.prog X.w) X.A (call (.ref q) us (ks.zip ws)) (EP X pins σ Q) X.xe s := by
  have rv2 : Vals (V.ref C :: vs) (Value.ref C :: us) := .cons rfl rv
  have z := cn _ σ H s Q (.ref C :: us) ws (.ref C :: vs) zs I rv2 rz h
  exact thn (Q := EP X ((q, PySem.W.methodObj (.ref g) (.ref C)) :: pins) σ Q) (wpAny_call (PySem.W.method_call (ClX.pin_at I) z)) fun _ _ y => ClX.unpinE y
theorem pe_gc {pl : Sem Bool} (he : PE X o to) (rd : ClX.CRead X.K C mc) (cm : ClX.CMet X.K C mc m p g) (c : CanG X (.ref g) ks r) (ha : PA X (e :: es) t) (hkw : PK X kws tk)
    (hall : (backToKw pos (keywordEach kws X.env)).all (·.1.isSome) = true := by rfl) (hks : (backToKw pos (keywordEach kws X.env)).filterMap (·.1) = ks := by rfl)
    (hst : starEach (e :: es) X.env = (false, eval e X.env) :: starEach es X.env := by rfl) (hpl : ((backTo pos (starEach (e :: es) X.env)).any (·.1) || (backToKw pos (keywordEach kws X.env)).any (·.1.isNone)) = false := by rfl)
    (ht : eval (.Call (.Attribute o m apos) (e :: es) kws pos) X.env = (eval o X.env >>= fun ov => standAt apos.atName >>= fun _ => holding [ov] (getMethod ov m pl) >>= fun p => callWith pos p.1 p.2 (backTo pos (starEach (e :: es) X.env)) (backToKw pos (keywordEach kws X.env))) := by rfl) :
    PE X (.Call (.Attribute o m apos) (e :: es) kws pos) (tGC C r to t tk) := by
  constructor
  intro pins s σ H Q I h
  refine PySem.W.methodCall_KW (pl := pl) (thn (he.run pins s σ H _ I h) ?_) ht
  rintro u s1 ⟨x, H1, I1, rx, rfl, q⟩
  cases (show u = Value.ref C from rx)
  refine ClX.getmethcm_ok I1 rd cm fun s2 I2 => ?_
  refine PySem.W.callWith_of hpl (PySem.W.keeps_M (K := X.K) (self := .ref C) cm.fi) (evalArgs_kw2 hall (thn (ha.run pos _ s2 σ H1 _ I2 q) ?_) hst)
  rintro us s3 ⟨vs, H3, I3, rv, q3⟩
  refine thn (hkw.run pos _ s3 σ H3 _ I3 q3) ?_
  rintro ws s4 ⟨zs, H4, I4, rz, q4⟩
  rw [hks]
  exact ⟨⟨ClX.pin_at I4, I4.kIn⟩, runC c I4 rv rz q4⟩
theorem pe_gc0 {pl : Sem Bool} (he : PE X o to) (rd : ClX.CRead X.K C mc) (cm : ClX.CMet X.K C mc m p g) (c : CanG X (.ref g) ks r) (hkw : PK X kws tk)
    (hall : (backToKw pos (keywordEach kws X.env)).all (·.1.isSome) = true := by rfl) (hks : (backToKw pos (keywordEach kws X.env)).filterMap (·.1) = ks := by rfl)
    (hpl : ((backTo pos (starEach [] X.env)).any (·.1) || (backToKw pos (keywordEach kws X.env)).any (·.1.isNone)) = false := by rfl)
    (ht : eval (.Call (.Attribute o m apos) [] kws pos) X.env = (eval o X.env >>= fun ov => standAt apos.atName >>= fun _ => holding [ov] (getMethod ov m pl) >>= fun p => callWith pos p.1 p.2 (backTo pos (starEach [] X.env)) (backToKw pos (keywordEach kws X.env))) := by rfl) :
    PE X (.Call (.Attribute o m apos) [] kws pos) (tGC C r to tNil tk) := by
  constructor
  intro pins s σ H Q I h
  refine PySem.W.methodCall_KW (pl := pl) (thn (he.run pins s σ H _ I h) ?_) ht
  rintro u s1 ⟨x, H1, I1, rx, rfl, q⟩
  cases (show u = Value.ref C from rx)
  refine ClX.getmethcm_ok I1 rd cm fun s2 I2 => ?_
  refine PySem.W.callWith_of hpl (PySem.W.keeps_M (K := X.K) (self := .ref C) cm.fi) (evalArgs_kw2_nil hall ?_)
  refine thn (hkw.run pos _ s2 σ H1 _ I2 q) ?_
  rintro ws s4 ⟨zs, H4, I4, rz, q4⟩
  rw [hks]
  exact ⟨⟨ClX.pin_at I4, I4.kIn⟩, runC c I4 .nil rz q4⟩
end
/-! ### over data -/
section
variable {c : Ct} {cs cs' : Cells} {Δ Δ' : Sts} {te ta tb to : TE} {tr tk : TA} {P : Dat → Prop} {d a b : Dat} {es fs ds : List Dat} {pre : Wld → List Dat → Prop} {post : List Dat → Dat → Prop} {postI : List Dat → List Dat → Prop} {xp : List Dat → Exc → Prop} {PA : List Dat → Prop} {E : XK} {n m : Nat} {gV : List V → List V → List V}
/-- how written arguments' and keywords' data make the parameters' data -/
def Gives (K : PySem.W.Frag) (gV : List V → List V → List V) (es fs ds : List Dat) : Prop := ∀ G vs zs, Reps K G es vs → Reps K G fs zs → Reps K G ds (gV vs zs)
def GivesI (K : PySem.W.Frag) (gV : List V → List V → List V) (es fs ds : List Dat) : Prop := ∀ G x vs zs, Reps K G es vs → Reps K G fs zs → ∃ ws, gV (.ref x :: vs) zs = .ref x :: ws ∧ Reps K G ds ws
abbrev XOk (c : Ct) (E : XK) (xp : List Dat → Exc → Prop) (ds : List Dat) : Prop := (c.E = E ∧ ∀ x, xp ds x → c.X x) ∨ ∀ x, ¬ xp ds x
theorem evp_g (ha : EVA c cs Δ tr PA) (hk : EVL c cs Δ tk fs) (h : ∀ es, PA es → es.length = n ∧ ∃ ds, Gives c.K gV es fs ds ∧ pre c.W ds ∧ XOk c E xp ds ∧ ∀ d, post ds d → P d) (h2 : fs.length = m) : EVP c cs Δ (tG (rFn n m (FSp c.K pre post xp) gV E) tr tk) P := fun σ G H s I R Q k =>
  ha σ G H s I R _ fun es' vs G1 H1 pa s1 rs => hk σ G1 H1 (s.mono s1.g) (s1.inn I) (R.on s1) _ fun fs' zs G2 H2 e2 s2 rz => by
    subst e2
    obtain ⟨h1, ds, hg, hp, hx, hq⟩ := h es' pa
    refine ⟨by rw [rs.len, h1], by rw [rz.len, h2], ?_⟩
    exact sp_run (s2.inn (s1.inn I)) ((R.on s1).on s2) (hg G2 vs zs (rs.mono s2.g) rz) hp hx fun d v G3 H3 pd s3 => k d v G3 H3 (hq d pd) ((s1.trans s2).trans s3)
theorem ev_g (ha : EVL c cs Δ tr es) (hk : EVL c cs Δ tk fs) (hg : Gives c.K gV es fs ds) (hp : pre c.W ds) (hx : XOk c E xp ds) (hq : ∀ d, post ds d → P d) (h1 : es.length = n := by rfl) (h2 : fs.length = m := by rfl) : EVP c cs Δ (tG (rFn n m (FSp c.K pre post xp) gV E) tr tk) P :=
  evp_g ha hk (fun _ e => by subst e; exact ⟨h1, ds, hg, hp, hx, hq⟩) h2
theorem evp_gm {C : Addr} {mm : Str} {fl : List Str} {Pf : List Dat → Prop} (ho : EVP c cs Δ to fun d => ∃ xs, d = .ins C fl xs ∧ Pf xs) (hm : ixOf mm fl = none) (ha : ∀ xs, Pf xs → EVA c cs Δ tr PA) (hk : EVL c cs Δ tk fs)
    (h : ∀ xs es, Pf xs → PA es → es.length + 1 = n ∧ ∃ ds, Gives c.K gV (.ins C fl xs :: es) fs ds ∧ pre c.W ds ∧ XOk c E xp ds ∧ ∀ d, post ds d → P d) (h2 : fs.length = m) : EVP c cs Δ (tGM C mm (rFn n m (FSp c.K pre post xp) gV E) to tr tk) P := fun σ G H s I R Q k =>
  ho σ G H s I R _ fun d v G1 H1 ⟨xs, e, pf⟩ s1 rd => by
    subst e
    obtain ⟨a, dx, ws, rfl, hg, hl, rs⟩ := rd
    refine ⟨a, dx, _, rfl, s1.i _ _ hg, ixOf_none hm, ?_⟩
    refine ha xs pf σ G1 H1 (s.mono s1.g) (s1.inn I) (R.on s1) _ fun es' vs G2 H2 pa s2 rv => ?_
    refine hk σ G2 H2 ((s.mono s1.g).mono s2.g) (s2.inn (s1.inn I)) ((R.on s1).on s2) _ fun fs' zs G3 H3 e3 s3 rz => ?_
    subst e3
    obtain ⟨h1, ds, hgv, hp, hx, hq⟩ := h xs es' pf pa
    refine ⟨by rw [List.length_cons, rv.len, h1], by rw [rz.len, h2], ?_⟩
    have r1 : Reps c.K G3 (.ins C fl xs :: es') (.ref a :: vs) := ⟨_, vs, rfl, ⟨a, dx, ws, rfl, s3.g _ _ (s2.g _ _ hg), hl, (rs.mono s2.g).mono s3.g⟩, rv.mono s3.g⟩
    exact sp_run (s3.inn (s2.inn (s1.inn I))) (((R.on s1).on s2).on s3) (hgv G3 _ zs r1 rz) hp hx fun d v G4 H4 pd s4 => k d v G4 H4 (hq d pd) (((s1.trans s2).trans s3).trans s4)
theorem ev_gm {C : Addr} {mm : Str} {fl : List Str} {xs : List Dat} (ho : EVD c cs Δ to (.ins C fl xs)) (ha : EVL c cs Δ tr es) (hk : EVL c cs Δ tk fs) (hg : Gives c.K gV (.ins C fl xs :: es) fs ds) (hp : pre c.W ds) (hx : XOk c E xp ds) (hq : ∀ d, post ds d → P d)
    (hm : ixOf mm fl = none := by decide +kernel) (h1 : es.length + 1 = n := by rfl) (h2 : fs.length = m := by rfl) : EVP c cs Δ (tGM C mm (rFn n m (FSp c.K pre post xp) gV E) to tr tk) P :=
  evp_gm (Pf := fun x => x = xs) (PA := fun x => x = es) (ho.imp fun d e => ⟨xs, e, rfl⟩) hm (fun _ _ => ha) hk (fun _ _ e1 e2 => by subst e1 e2; exact ⟨h1, ds, hg, hp, hx, hq⟩) h2
theorem evp_gc {C : Addr} (ho : EVD c cs Δ to (.obj (.ref C))) (ha : EVA c cs Δ tr PA) (hk : EVL c cs Δ tk fs) (h : ∀ es, PA es → es.length + 1 = n ∧ ∃ ds, Gives c.K gV (.obj (.ref C) :: es) fs ds ∧ pre c.W ds ∧ XOk c E xp ds ∧ ∀ d, post ds d → P d) (h2 : fs.length = m) :
    EVP c cs Δ (tGC C (rFn n m (FSp c.K pre post xp) gV E) to tr tk) P := fun σ G H s I R Q k =>
  ho σ G H s I R _ fun d v G1 H1 e s1 rd => by
    subst e
    refine ⟨rd, ha σ G1 H1 (s.mono s1.g) (s1.inn I) (R.on s1) _ fun es' vs G2 H2 pa s2 rv => ?_⟩
    refine hk σ G2 H2 ((s.mono s1.g).mono s2.g) (s2.inn (s1.inn I)) ((R.on s1).on s2) _ fun fs' zs G3 H3 e3 s3 rz => ?_
    subst e3
    obtain ⟨h1, ds, hgv, hp, hx, hq⟩ := h es' pa
    refine ⟨by rw [List.length_cons, rv.len, h1], by rw [rz.len, h2], ?_⟩
    have r1 : Reps c.K G3 (.obj (.ref C) :: es') (.ref C :: vs) := ⟨_, vs, rfl, rfl, rv.mono s3.g⟩
    exact sp_run (s3.inn (s2.inn (s1.inn I))) (((R.on s1).on s2).on s3) (hgv G3 _ zs r1 rz) hp hx fun d v G4 H4 pd s4 => k d v G4 H4 (hq d pd) (((s1.trans s2).trans s3).trans s4)
theorem ev_gc {C : Addr} (ho : EVD c cs Δ to (.obj (.ref C))) (ha : EVL c cs Δ tr es) (hk : EVL c cs Δ tk fs) (hg : Gives c.K gV (.obj (.ref C) :: es) fs ds) (hp : pre c.W ds) (hx : XOk c E xp ds) (hq : ∀ d, post ds d → P d) (h1 : es.length + 1 = n := by rfl) (h2 : fs.length = m := by rfl) :
    EVP c cs Δ (tGC C (rFn n m (FSp c.K pre post xp) gV E) to tr tk) P := evp_gc ho ha hk (fun _ e => by subst e; exact ⟨h1, ds, hg, hp, hx, hq⟩) h2
theorem ev_propG {C : Addr} {fl : List Str} {xs : List Dat} (ho : EVD c cs Δ to (.ins C fl xs)) (hp : pre c.W [.ins C fl xs]) (hx : XOk c E xp [.ins C fl xs]) (hq : ∀ d, post [.ins C fl xs] d → P d) : EVP c cs Δ (tPropG C (FSp c.K pre post xp) E to) P := fun σ G H s I R Q k =>
  ho σ G H s I R _ fun d v G1 H1 e s1 rd => by
    subst e
    obtain ⟨a, dx, ws, rfl, hg, hl, rs⟩ := rd
    refine ⟨a, dx, _, rfl, s1.i _ _ hg, ?_⟩
    exact sp_run (ds := [.ins C fl xs]) (s1.inn I) (R.on s1) (Reps.one ⟨a, dx, ws, rfl, hg, hl, rs⟩) hp hx fun d v G3 H3 pd s3 => k d v G3 H3 (hq d pd) (s1.trans s3)
theorem evp_mk {C : Addr} {fl : List Str} (ha : EVA c cs Δ tr PA) (hk : EVL c cs Δ tk fs) (h : ∀ es, PA es → es.length = n ∧ ∃ ds, GivesI c.K gV es fs ds ∧ pre c.W ds ∧ XOk c E xp ds ∧ ∀ xs, postI ds xs → P (.ins C fl xs)) (h2 : fs.length = m) :
    EVP c cs Δ (tG (rMk C n m (ISp c.K C pre fl postI xp) gV E) tr tk) P := fun σ G H s I R Q k =>
  ha σ G H s I R _ fun es' vs G1 H1 pa s1 rs => hk σ G1 H1 (s.mono s1.g) (s1.inn I) (R.on s1) _ fun fs' zs G2 H2 e2 s2 rz => by
    subst e2
    obtain ⟨h1, ds, hg, hp, hx, hq⟩ := h es' pa
    refine ⟨by rw [rs.len, h1], by rw [rz.len, h2], fun x dx hx0 hd0 ne => ?_⟩
    obtain ⟨ws, ew, rw_⟩ := hg G2 x vs zs (rs.mono s2.g) rz
    rw [ew]
    exact mk_run (s2.inn (s1.inn I)) ((R.on s1).on s2) rw_ hp hx hx0 hd0 ne fun d v G3 H3 ⟨xs, e, pe⟩ s3 => by
      subst e
      exact k _ v G3 H3 (hq xs pe) ((s1.trans s2).trans s3)
theorem ev_mk {C : Addr} {fl : List Str} (ha : EVL c cs Δ tr es) (hk : EVL c cs Δ tk fs) (hg : GivesI c.K gV es fs ds) (hp : pre c.W ds) (hx : XOk c E xp ds) (hq : ∀ xs, postI ds xs → P (.ins C fl xs)) (h1 : es.length = n := by rfl) (h2 : fs.length = m := by rfl) :
    EVP c cs Δ (tG (rMk C n m (ISp c.K C pre fl postI xp) gV E) tr tk) P := evp_mk ha hk (fun _ e => by subst e; exact ⟨h1, ds, hg, hp, hx, hq⟩) h2
/-- arguments alone, in their sequence -/
theorem gives_id {K : PySem.W.Frag} : Gives K (fun vs _ => vs) es [] es := fun G vs zs r _ => r
theorem givesI_id {K : PySem.W.Frag} : GivesI K (fun vs _ => vs) es [] es := fun G x vs zs r _ => ⟨vs, rfl, r⟩
theorem gives_dfl {K : PySem.W.Frag} {dvs : List V} {dds : List Dat} (h : ∀ G, Reps K G dds dvs) : Gives K (fun vs _ => vs ++ dvs) es [] (es ++ dds) := fun G vs zs r _ => r.app (h G)
theorem givesI_dfl {K : PySem.W.Frag} {dvs : List V} {dds : List Dat} (h : ∀ G, Reps K G dds dvs) : GivesI K (fun vs _ => vs ++ dvs) es [] (es ++ dds) := fun G x vs zs r _ => ⟨vs ++ dvs, rfl, r.app (h G)⟩
end
end DV

set_option autoImplicit false
set_option linter.all false
set_option maxRecDepth 100000
set_option maxHeartbeats 2000000
/-! Operators, comparisons, texts of instances of a class of the text, by its own methods; the texts of lists. -/
namespace DV
open PySem PySem.Spec PyProof.Rows L2

section
variable {X : Cx} {pins : List (Addr × Obj)} {σ : L2.St} {H : Hp} {s : Shared}
theorem fr_of (I : Inv X pins σ H s) : ∃ m, Fr X.base X.env.locals s.heap m := by
  obtain ⟨m, hn, _⟩ := I.loc
  exact ⟨m, hn, fun b o e => I.bk b o e, Nat.le_trans I.ok.bsz I.ok.above⟩
theorem at_of (I : Inv X pins σ H s) {a C dx : Addr} {fs : List (Str × V)} (e : H a = some (.ins C dx fs)) : ∃ ox od, PySem.W.InstAt s.heap a ox C od := by
  obtain ⟨mA, O, _⟩ := ins_get I.hok e
  obtain ⟨od, J, _⟩ := O.look
  exact ⟨_, _, J⟩
theorem cmpB {Q : Value → Shared → Prop} {x : V} {u : Value} {s' : Shared} (r : RelV x u) (q : Q u s') : PySem.W.CmpBack Q u s' := by
  cases x <;> first
    | (cases (show u = _ from r); exact q)
    | (obtain ⟨t, e⟩ := (show ∃ t, u = _ from r); cases e; exact q)
theorem thenE {Q' : Value → Shared → Prop} {Q : VK} {t : Sem Value} {A : Around} {E : Value → Shared → Prop} (h : wpAny (model X.prog X.w) A t (EP X pins σ Q) E s) (k : ∀ u s' v H', Inv X pins σ H' s' → RelV v u → Q v H' → Q' u s') : wpAny (model X.prog X.w) A t Q' E s :=
  wpAny_mono h (fun u s' ⟨v, H', I', r, q⟩ => k u s' v H' I' r q) fun _ _ z => z
end

/-! ### what the text must say -/
/-- a class whose operators are its own -/
structure OwnC (K : PySem.W.Frag) (C : Addr) : Prop where
  first : PySem.W.selfFirst K C = true
  subI : PySem.W.subIn K (.type "int") (.ref C) = some false
  subC : PySem.W.subIn K (.ref C) (.type "int") = some false
structure OwnM (K : PySem.W.Frag) (C : Addr) (m : Str) (f : Addr) : Prop where
  at_ : PySem.W.findIn K (.ref C) m = some (some (.ref f))
  fn : PySem.W.isFn K (.ref f) = true
theorem OwnM.of {K : PySem.W.Frag} {C : Addr} {m : Str} {f : Addr} (h : Meth K C m f) : OwnM K C m f := ⟨h.at_, h.fn⟩
/-- __nm__ and __rnm__ -/
structure OwnB (K : PySem.W.Frag) (C : Addr) (nm : String) (f : Addr) (rc : Option Value) : Prop where
  at_ : PySem.W.findIn K (.ref C) (PySem.dunder nm) = some (some (.ref f))
  fn : PySem.W.isFn K (.ref f) = true
  r : PySem.W.findIn K (.ref C) (dunderR nm) = some rc
  ro : rc = none ∨ ∃ g : Addr, rc = some (.ref g)
  i1 : ∃ o, PySem.W.findIn K (.type "int") (PySem.dunder nm) = some o
  i2 : ∃ o, PySem.W.findIn K (.type "int") (dunderR nm) = some o

/-! ### readings -/
abbrev RC := List V → List V → Hp → VK → Prop
def rOwnC (C : Addr) (r : RC) : R2 := fun x y H Q => ∃ a dx fs b dy gs, x = .ref a ∧ H a = some (.ins C dx fs) ∧ y = .ref b ∧ H b = some (.ins C dy gs) ∧ r [x, y] [] H Q
def rOwnI (C : Addr) (r : RC) : R2 := fun x y H Q => ∃ a dx fs i, x = .ref a ∧ H a = some (.ins C dx fs) ∧ y = .int i ∧ r [x, y] [] H Q
def rOwnR (C : Addr) (r : RC) : R2 := fun x y H Q => ∃ a dx fs i, y = .ref a ∧ H a = some (.ins C dx fs) ∧ x = .int i ∧ r [y, x] [] H Q
def rOwn1 (C : Addr) (r : RC) : V → Hp → VK → Prop := fun x H Q => ∃ a dx fs, x = .ref a ∧ H a = some (.ins C dx fs) ∧ r [x] [] H Q
/-- .. with the answer a bool -/
def rOwnNe (C : Addr) (r : RC) : R2 := fun x y H Q => ∃ a dx fs b dy gs, x = .ref a ∧ H a = some (.ins C dx fs) ∧ y = .ref b ∧ H b = some (.ins C dy gs) ∧ r [x, y] [] H fun v H' => ∃ k, v = .bl k ∧ Q (.bl (!k)) H'
def rOwnS (C : Addr) (r : RC) : List V → Hp → VK → Prop := fun xs H Q => ∃ a dx fs, xs = [.ref a] ∧ H a = some (.ins C dx fs) ∧ r xs [] H fun v H' => ∃ z, v = .str z ∧ Q (.str z) H'

section
variable {X : Cx} {C f : Addr} {r : RC} {rc : Option Value} {nm : String}
theorem run1 (cn : CanG X (.ref f) [] r) {pins : List (Addr × Obj)} {σ : L2.St} {H : Hp} {s : Shared} {Q : VK} {us : List Value} {vs : List V} (I : Inv X pins σ H s) (rv : Vals vs us) (h : r vs [] H Q) : wpAny (model X.prog X.w) X.A (call (.ref f) us) (EP X pins σ Q) X.xe s :=
  wpAny_call (cn pins σ H s Q us [] vs [] I rv .nil h)
theorem op_ownC {op : Operator} (hc : OwnC X.K C) (hm : OwnB X.K C op.info.2 f rc) (cn : CanG X (.ref f) [] r) : OpR X (binaryOp op) (rOwnC C r) := by
  intro pins s σ H x y v u Q I rx ry h
  obtain ⟨a, dx, fs, b, dy, gs, rfl, ha, rfl, hb, q⟩ := h
  cases (show v = Value.ref a from rx)
  cases (show u = Value.ref b from ry)
  obtain ⟨m, F⟩ := fr_of I
  obtain ⟨ox, od, J⟩ := at_of I ha
  obtain ⟨oy, oe, J2⟩ := at_of I hb
  refine PySem.W.binop_K F I.ok.mod.kin J J2.type hc.first hm.at_ hm.fn (thenE (run1 cn I (.cons rx (.cons ry .nil)) q) fun u s' v H' I' r' q' => cmpB r' ⟨v, H', I', r', q'⟩)
theorem op_ownI {op : Operator} (hc : OwnC X.K C) (hm : OwnB X.K C op.info.2 f rc) (cn : CanG X (.ref f) [] r) : OpR X (binaryOp op) (rOwnI C r) := by
  intro pins s σ H x y v u Q I rx ry h
  obtain ⟨a, dx, fs, i, rfl, ha, rfl, q⟩ := h
  cases (show v = Value.ref a from rx)
  obtain ⟨t, rfl⟩ := (show ∃ t, u = Value.int i t from ry)
  obtain ⟨m, F⟩ := fr_of I
  obtain ⟨ox, od, J⟩ := at_of I ha
  obtain ⟨o1, e1⟩ := hm.i1
  obtain ⟨o2, e2⟩ := hm.i2
  refine PySem.W.ksp_binT (T := "int") F I.ok.mod.kin J rfl hc.first hm.at_ hm.fn hm.r hm.ro e1 e2 hc.subI (thenE (run1 cn I (.cons rx (.cons ry .nil)) q) fun u s' v H' I' r' q' => cmpB r' ⟨v, H', I', r', q'⟩)
end
/-! an int on the left: it declines -/
section
variable {prog : Program} {w : World} {M : Model} {A : Around} {E : Value → Shared → Prop} {s : Shared} {C dx a : Addr} {i : Int} {t : Tok}
theorem ni_add {Q : Fin → Shared → Prop} (J : s.heap.get? a = some (PySem.W.instObj C dx)) (q : Q (.done (.ret .notImplemented)) s) : wpAny M A (Builtin.«int.__add__» ⟨[.int i t, .ref a], []⟩) Q E s := by
  obtain ⟨hh, g, d, tk, os⟩ := s
  wp_walk using AutoSeq1.wpAny_loadPart' J
  exact q
theorem ni_sub {Q : Fin → Shared → Prop} (J : s.heap.get? a = some (PySem.W.instObj C dx)) (q : Q (.done (.ret .notImplemented)) s) : wpAny M A (Builtin.«int.__sub__» ⟨[.int i t, .ref a], []⟩) Q E s := by
  obtain ⟨hh, g, d, tk, os⟩ := s
  wp_walk using AutoSeq1.wpAny_loadPart' J
  exact q
theorem ni_mul {Q : Fin → Shared → Prop} (J : s.heap.get? a = some (PySem.W.instObj C dx)) (q : Q (.done (.ret .notImplemented)) s) : wpAny M A (Builtin.«int.__mul__» ⟨[.int i t, .ref a], []⟩) Q E s := by
  obtain ⟨hh, g, d, tk, os⟩ := s
  wp_walk using AutoSeq1.wpAny_loadPart' J
  exact q
theorem ni_eq {Q : Fin → Shared → Prop} (J : s.heap.get? a = some (PySem.W.instObj C dx)) (q : Q (.done (.ret .notImplemented)) s) : wpAny M A (Builtin.«int.__eq__» ⟨[.int i t, .ref a], []⟩) Q E s := by
  obtain ⟨hh, g, d, tk, os⟩ := s
  wp_walk using AutoSeq1.wpAny_loadPart' J
  exact q
end
/-- int's own slot for an operation, and that it declines instances -/
structure IntNo (op : Operator) : Prop where
  fills : fillsNumberSlot (.type "int") op.info.2 = pure true
  no : ∀ (prog : Program) (w : World) (A : Around) (E : Value → Shared → Prop) (s : Shared) (C dx a : Addr) (i : Int) (t : Tok) (Q : Option Value → Shared → Prop), s.heap.get? a = some (PySem.W.instObj C dx) → Q none s → wpAny (model prog w) A (tryMethod (.int i t) (PySem.dunder op.info.2) (.ref a)) Q E s
theorem IntNo.mk' {op : Operator} {id : String} {B : Builtin} (fl : fillsNumberSlot (.type "int") op.info.2 = pure true) (sl : Slot "int" (PySem.dunder op.info.2) id) (en : entryFor table id = some B) (ar : ∀ a b, argsOk id ⟨[a, b], []⟩)
    (g : ∀ (M : Model) (A : Around) (E : Value → Shared → Prop) (s : Shared) (C dx a : Addr) (i : Int) (t : Tok) (Q : Fin → Shared → Prop), s.heap.get? a = some (PySem.W.instObj C dx) → Q (.done (.ret .notImplemented)) s → wpAny M A (B ⟨[.int i t, .ref a], []⟩) Q E s) : IntNo op :=
  ⟨fl, fun prog w A E s C dx a i t Q J q => wpAny_tryMethod_declines (typeIs_int _ _ _) sl (wpAny_call (codeAny_call_builtin sl.plain en (sl.check _ _ _ _ _ _ _ _ (typeIs_int _ _ _) (ar _ _) (g _ _ _ s C dx a i t _ J ⟨rfl, q⟩))))⟩
theorem intNo_add : IntNo .Add := .mk' PySem.F.fills_int_add PySem.F.slot_int_add PySem.F.entry_int_add (PySem.F.args_int_add_2) fun _ _ _ _ _ _ _ _ _ _ J q => ni_add J q
theorem intNo_sub : IntNo .Sub := .mk' PySem.F.fills_int_sub PySem.F.slot_int_sub PySem.F.entry_int_sub (PySem.F.args_int_sub_2) fun _ _ _ _ _ _ _ _ _ _ J q => ni_sub J q
theorem intNo_mul : IntNo .Mult := .mk' PySem.F.fills_int_mul PySem.F.slot_int_mul PySem.F.entry_int_mul (PySem.F.args_int_mul_2) fun _ _ _ _ _ _ _ _ _ _ J q => ni_mul J q
end DV

set_option autoImplicit false
set_option linter.all false
set_option maxRecDepth 100000
set_option maxHeartbeats 2000000
namespace DV
open PySem PySem.Spec PyProof.Rows L2
open PySem.W (Looks)
section
variable {X : Cx} {C f : Addr} {r : RC} {rc : Option Value}
theorem obj_of {pins : List (Addr × Obj)} {σ : L2.St} {H : Hp} {s : Shared} (I : Inv X pins σ H s) {a dx : Addr} {fs : List (Str × V)} (e : H a = some (.ins C dx fs)) : s.heap.get? a = some (PySem.W.instObj C dx) := by
  obtain ⟨mA, O, _⟩ := ins_get I.hok e
  exact O.obj
theorem op_ownR {op : Operator} (hn : IntNo op) (hc : OwnC X.K C) (hm : OwnB X.K C op.info.2 f rc) {g : Addr} (hg : OwnM X.K C (dunderR op.info.2) g) (cn : CanG X (.ref g) [] r) : OpR X (binaryOp op) (rOwnR C r) := by
  intro pins s σ H x y v u Q I rx ry h
  obtain ⟨a, dx, fs, i, rfl, ha, rfl, q⟩ := h
  cases (show u = Value.ref a from ry)
  obtain ⟨t, rfl⟩ := (show ∃ t, v = Value.int i t from rx)
  have K := I.kIn
  obtain ⟨ox, od, J⟩ := at_of I ha
  have hob := obj_of I ha
  have fin := run1 cn I (.cons ry (.cons rx .nil)) q
  have two : wpAny (model X.prog X.w) X.A (tryMethod (.ref a) (dunderR op.info.2) (.int i t)) (fun z s' => ∃ w', z = some w' ∧ EP X pins σ Q w' s') X.xe s :=
    PySem.W.ksp_try K J hg.at_ hg.fn (thenE fin fun u s' v H' I' r' q' => cmpB r' ⟨v, H', I', r', q'⟩)
  have one := fun Q' q' => hn.no X.prog X.w X.A X.xe s C dx a i t Q' hob q'
  have fl := hn.fills
  have hat := hm.at_
  obtain ⟨cd, rest, hcd, hmr⟩ := PySem.W.ksp_first hc.first
  have hsub := hc.subC
  rcases hi : op.info with ⟨sym, nm⟩
  rw [hi] at hat two one fl
  dsimp only at hat two one fl
  clear fin
  obtain ⟨hh, gg, d, tk, os⟩ := s
  have L1 : Looks (model X.prog X.w) hh (typeOf (.ref a)) (.ref C) := J.type
  have L3 : Looks (model X.prog X.w) hh (fillsNumberSlot (.ref C) nm) true := PySem.W.fills_K K hcd hmr hat
  have L5 : Looks (model X.prog X.w) hh (isSubtype (.ref C) (.type "int")) false := PySem.W.looks_subIn K hsub
  have hne : (Value.type "int" == Value.ref C) = false := Bool.eq_false_iff.mpr fun z => by cases beq_iff_eq.mp z
  have hpy : numberSlotInPython (.type "int") nm = pure false := rfl
  have ty : typeOf (.int i t) = pure (.type "int") := rfl
  simp only [binaryOp, hi]
  refine wpAny_holding (wpAny_bind ?_)
  unfold binaryOp1
  refine wpAny_bind (wpAny_of_eq ty (wpAny_bind (L1.at (wpAny_bind (wpAny_of_eq fl ?_)))))
  simp only [hne, Bool.false_eq_true, if_false]
  refine wpAny_bind (L3.at ?_)
  simp only [Bool.and_self, if_true]
  refine wpAny_bind (L5.at ?_)
  simp only [Bool.false_eq_true, if_false, pure_bind, Bool.not_false, Bool.and_self, if_true, hpy]
  refine wpAny_bind (one _ ?_)
  dsimp only
  refine wpAny_bind (wpAny_mono two (fun z s' hz => ?_) fun _ _ e => e)
  obtain ⟨w', rfl, hq⟩ := hz
  exact wpAny_bind (wpAny_rule (wpAny_pure (wpAny_pure hq)))
theorem un_ownNeg (hm : OwnM X.K C "__neg__" f) (cn : CanG X (.ref f) [] r) : UnR X (unaryOp .USub) (rOwn1 C r) := by
  intro pins s σ H x v Q I rx h
  obtain ⟨a, dx, fs, rfl, ha, q⟩ := h
  cases (show v = Value.ref a from rx)
  obtain ⟨m, F⟩ := fr_of I
  obtain ⟨ox, od, J⟩ := at_of I ha
  exact PySem.W.ksp_neg F I.ok.mod.kin J hm.at_ hm.fn (run1 cn I (.cons rx .nil) q)
theorem op_eqOwnC (hu : X.A.units < cLine) (hm : OwnM X.K C "__eq__" f) (cn : CanG X (.ref f) [] r) : OpR X (compareOp .Eq) (rOwnC C r) := by
  intro pins s σ H x y v u Q I rx ry h
  obtain ⟨a, dx, fs, b, dy, gs, rfl, ha, rfl, hb, q⟩ := h
  cases (show v = Value.ref a from rx)
  cases (show u = Value.ref b from ry)
  obtain ⟨m, F⟩ := fr_of I
  obtain ⟨ox, od, J⟩ := at_of I ha
  obtain ⟨oy, oe, J2⟩ := at_of I hb
  show wpAny _ _ (richCompare .Eq _ _) _ _ _
  refine PySem.W.cmp_K (tb := .ref C) hu F I.ok.mod.kin J J2.type ?_ hm.at_ hm.fn (thenE (run1 cn I (.cons rx (.cons ry .nil)) q) fun u s' v H' I' r' q' => cmpB r' ⟨v, H', I', r', q'⟩)
  unfold PySem.W.notFirst
  simp
theorem op_eqOwnI (hu : X.A.units < cLine) (hc : OwnC X.K C) (hm : OwnM X.K C "__eq__" f) (cn : CanG X (.ref f) [] r) : OpR X (compareOp .Eq) (rOwnI C r) := by
  intro pins s σ H x y v u Q I rx ry h
  obtain ⟨a, dx, fs, i, rfl, ha, rfl, q⟩ := h
  cases (show v = Value.ref a from rx)
  obtain ⟨t, rfl⟩ := (show ∃ t, u = Value.int i t from ry)
  obtain ⟨m, F⟩ := fr_of I
  obtain ⟨ox, od, J⟩ := at_of I ha
  show wpAny _ _ (richCompare .Eq _ _) _ _ _
  refine PySem.W.cmp_K (tb := .type "int") hu F I.ok.mod.kin J (Looks.of_pure rfl) ?_ hm.at_ hm.fn (thenE (run1 cn I (.cons rx (.cons ry .nil)) q) fun u s' v H' I' r' q' => cmpB r' ⟨v, H', I', r', q'⟩)
  unfold PySem.W.notFirst
  rw [hc.subI]
  simp
theorem op_eqOwnR (hu : X.A.units < cLine) (hc : OwnC X.K C) (hm : OwnM X.K C "__eq__" f) (cn : CanG X (.ref f) [] r) : OpR X (compareOp .Eq) (rOwnR C r) := by
  intro pins s σ H x y v u Q I rx ry h
  obtain ⟨a, dx, fs, i, rfl, ha, rfl, q⟩ := h
  cases (show u = Value.ref a from ry)
  obtain ⟨t, rfl⟩ := (show ∃ t, v = Value.int i t from rx)
  have K := I.kIn
  obtain ⟨ox, od, J⟩ := at_of I ha
  have hob := obj_of I ha
  have fin := run1 cn I (.cons ry (.cons rx .nil)) q
  have two : wpAny (model X.prog X.w) X.A (tryCompare (.ref a) "__eq__" (.int i t)) (fun z s' => ∃ w', z = some w' ∧ EP X pins σ Q w' s') X.xe s := by
    unfold tryCompare
    refine wpAny_bind (PySem.W.ifBound_K K J hm.at_ hm.fn (thenE fin fun u s' v H' I' r' q' => ?_))
    have z : PySem.W.CmpBack (EP X pins σ Q) u s' := cmpB r' ⟨v, H', I', r', q'⟩
    cases u <;> first | exact z.elim | exact wpAny_pure ⟨_, rfl, z⟩
  have one : ∀ Q' : Option Value → Shared → Prop, Q' none s → wpAny (model X.prog X.w) X.A (tryCompare (.int i t) (cmpInfo .Eq).2.1 (.ref a)) Q' X.xe s := fun Q' q' =>
    wpAny_tryCompare_declines (typeIs_int _ _ _) PySem.F.slot_int_eq (wpAny_call (codeAny_call_builtin PySem.F.slot_int_eq.plain PySem.F.entry_int_eq (PySem.F.slot_int_eq.check _ _ _ _ _ _ _ _ (typeIs_int _ _ _) (PySem.F.args_int_eq_2 _ _) (ni_eq hob ⟨rfl, q'⟩))))
  have hsub := hc.subC
  clear fin
  obtain ⟨hh, gg, d, tk, os⟩ := s
  have L1 : Looks (model X.prog X.w) hh (typeOf (.ref a)) (.ref C) := J.type
  have L5 : Looks (model X.prog X.w) hh (isSubtype (.ref C) (.type "int")) false := PySem.W.looks_subIn K hsub
  have hne : (Value.type "int" != Value.ref C) = true := by
    rw [bne_iff_ne]
    exact fun z => by cases z
  have ty : typeOf (.int i t) = pure (.type "int") := rfl
  have on : oneThing? CmpOp.Eq (.int i t) (.ref a) = none := by rfl
  show wpAny _ _ (richCompare .Eq _ _) _ _ _
  unfold richCompare
  rw [on]
  refine wpAny_holding (wpAny_bind (wpAny_cRoomFor hu ?_))
  refine wpAny_bind (wpAny_of_eq ty (wpAny_bind (L1.at ?_)))
  simp only [hne, if_true]
  refine wpAny_bind (L5.at ?_)
  simp only [Bool.false_eq_true, if_false]
  refine wpAny_bind (one _ ?_)
  simp only [Bool.not_false, if_true]
  refine wpAny_bind (wpAny_mono two (fun z s' hz => ?_) fun _ _ e => e)
  obtain ⟨w', rfl, hq⟩ := hz
  exact wpAny_pure hq
end
end DV

set_option autoImplicit false
set_option linter.all false
set_option maxRecDepth 100000
set_option maxHeartbeats 2000000
namespace DV
open PySem PySem.Spec PyProof.Rows L2
open PySem.W (Looks)
section
variable {X : Cx} {CX : CXT} {k : Nat} {C f : Addr} {fd : FuncData} {ps : List Str} {sp : Sp} {E : XK} {g : List Value → List Value → List Value} {gV : List V → List V → List V} {n : Nat}
/-- a def called under other code: A is around -/
theorem runA (F : FnG X.prog X.w X.K X.mg X.base CX k f fd ps sp) {A : Around} (hr : RoomG k A) (hb : KBn X.K fd ps n [] g gV) (hx : Passes CX X E) {pins : List (Addr × Obj)} {σ : L2.St} {H : Hp} {s : Shared} {Q : VK} {us : List Value} {vs : List V}
    (I : Inv X pins σ H s) (e0 : Env0 X.prog X.w X.K X.mg X.base A X.stack s H) (rv : Vals vs us) (h : rFn n 0 sp gV E vs [] H Q) : wpAny (model X.prog X.w) A (call (.ref f) us) (EP X pins σ Q) X.xe s := by
  obtain ⟨l1, _, h⟩ := h
  have b := hb.to s us [] I.kIn (rv.length.symm.trans l1) rfl
  refine wpAny_call (codeAny_mono (F.go A X.stack s H ⟨us, []⟩ _ _ Q E hr e0 b (hb.rel rv .nil) h) ?_)
  intro r s' z
  cases r with
  | error e => exact hx pins σ H s e s' I z
  | ok fl =>
    obtain ⟨u, e, q⟩ := backG I z
    subst e
    exact q
theorem op_neOwnC (F : FnG X.prog X.w X.K X.mg X.base CX k f fd ps sp) (hr : RoomG (k + 1) X.A) (hb : KBn X.K fd ps n [] g gV) (hx : Passes CX X E) (hm : OwnM X.K C "__eq__" f)
    (hne : PySem.W.findIn X.K (.ref C) "__ne__" = some (some (.builtin "object.__ne__"))) (ho : PySem.W.mroIn X.K C (.type "object") = some true) : OpR X (compareOp .NotEq) (rOwnNe C (rFn n 0 sp gV E)) := by
  intro pins s σ H x y v u Q I rx ry h
  obtain ⟨a, dx, fs, b, dy, gs, rfl, ha, rfl, hb', q⟩ := h
  cases (show v = Value.ref a from rx)
  cases (show u = Value.ref b from ry)
  have K := I.kIn
  obtain ⟨ox, od, J⟩ := at_of I ha
  obtain ⟨oy, oe, J2⟩ := at_of I hb'
  have hu : X.A.units + 1 < cLine := hu_of hr.r
  have fin := runA F hr.in1 hb hx I I.env0.in1 (.cons rx (.cons ry .nil)) q
  have one : wpAny (model X.prog X.w) X.A (tryCompare (.ref a) "__ne__" (.ref b)) (fun z s' => ∃ w', z = some w' ∧ EP X pins σ Q w' s') X.xe s := by
    simp only [tryCompare]
    refine wpAny_bind (m := callSpecialIfBound? _ _ _) ?_
    simp only [callSpecialIfBound?, bindSpecialIfBound?]
    refine wpAny_holding (wpAny_bind (wpAny_bind (wpAny_bind (J.type.here ((PySem.W.looks_findIn K hne).here ?_)))))
    have fin2 : wpAny (model X.prog X.w) X.A (call (.builtin "object.__ne__") [.ref a, .ref b]) (fun w' s' => w' ≠ .notImplemented ∧ EP X pins σ Q w' s') X.xe s := by
      refine wpAny_call (codeAny_call_builtin PySem.F.cmp_object.ne.plain PySem.F.cmpEntry_ne (PySem.W.check_slot (i := "object.__ne__") (owner := "object") (n := "__ne__") PySem.F.cmpKind_ne PySem.F.cmpSplit_ne (J.type.andThen (PySem.W.looks_mroIn K ho)) (PySem.F.cmpArgs_ne _ _) ?_))
      unfold Builtin.«object.__ne__»
      refine wpAny_bind (m := slotArgs "__ne__" 1 _) (wpAny_pure ?_)
      refine wpAny_bind (m := cRoomFor _ _) (wpAny_cRoomFor hu ?_)
      refine wpAny_bind (m := callSpecialIfBound? (.ref a) (Str.ofString "__eq__") [.ref b]) (PySem.W.ifBound_K K J hm.at_ hm.fn (wpAny_mono fin (fun u s' hz => ?_) fun _ _ e => e))
      obtain ⟨v, H', I', r', k', rfl, q'⟩ := hz
      cases (show u = Value.bool k' from r')
      refine wpAny_bind (m := truthy (.bool k')) (wpAny_truthy_bool (wpAny_pure ?_))
      exact ⟨nofun, .bl (!k'), H', I', rfl, q'⟩
    have hbd : bindSpecial (.builtin "object.__ne__") (.ref a) = pure (.builtin "object.__ne__", [.ref a]) := PySem.F.cmp_object.ne.bind _
    refine wpAny_bind (wpAny_askSetting (wpAny_ite ?_))
    split
    · refine wpAny_bind (wpAny_of_eq hbd (wpAny_pure ?_))
      refine wpAny_bind (wpAny_mono fin2 (fun v s' hz => ?_) fun _ _ e => e)
      obtain ⟨nv, hz⟩ := hz
      refine wpAny_pure ?_
      cases v <;> first | exact absurd rfl nv | exact wpAny_pure ⟨_, rfl, hz⟩
    · refine wpAny_tryCatch (wpAny_bind (wpAny_of_eq hbd (wpAny_pure ?_)))
      refine wpAny_bind (wpAny_mono fin2 (fun v s' hz => ?_) fun _ _ e => e)
      obtain ⟨nv, hz⟩ := hz
      refine wpAny_pure ?_
      cases v <;> first | exact absurd rfl nv | exact wpAny_pure ⟨_, rfl, hz⟩
  show wpAny _ _ (richCompare .NotEq _ _) _ _ _
  unfold richCompare
  simp only [oneThing_ref]
  refine wpAny_holding (wpAny_bind (wpAny_cRoomFor (by omega) ?_))
  refine wpAny_bind (J.type.here (wpAny_bind (J2.type.here ?_)))
  rw [show (Value.ref C != Value.ref C) = false from by simp]
  simp only [Bool.false_eq_true, if_false]
  refine wpAny_bind (wpAny_pure ?_)
  simp only [Bool.false_eq_true, if_false]
  refine wpAny_bind (wpAny_mono one (fun z s' hz => ?_) fun _ _ e => e)
  obtain ⟨w', rfl, hq⟩ := hz
  exact wpAny_pure hq
/-- str(e), e's class with its own __str__ -/
theorem call_strOwn (F : FnG X.prog X.w X.K X.mg X.base CX k f fd ps sp) (hr : RoomG (k + 2) X.A) (hb : KBn X.K fd ps n [] g gV) (hx : Passes CX X E) (hm : OwnM X.K C "__str__" f) : CallR X (.type "str") (rOwnS C (rFn n 0 sp gV E)) := by
  intro pins s σ H xs us Q I rv h
  obtain ⟨a, dx, fs, rfl, ha, q⟩ := h
  obtain rfl : us = [.ref a] := by
    cases rv with
    | cons r1 rn => cases rn; cases (show _ = Value.ref a from r1); rfl
  obtain ⟨ox, od, J⟩ := at_of I ha
  have fin := runA F hr.in1.in1 hb hx I I.env0.in1.in1 rv q
  have hu := hu_of hr.in1.in1.r
  refine PySem.W.kso_call (by omega) I.kIn J hm.at_ hm.fn (wpAny_mono fin (fun u s' hz => ?_) fun _ _ e => e)
  obtain ⟨v, H', I', r', z, rfl, q'⟩ := hz
  obtain ⟨t, rfl⟩ := id r'
  exact ⟨.str z, H', I', r', q'⟩
/-- repr(e), e's class with its own __repr__ -/
theorem call_reprOwn (F : FnG X.prog X.w X.K X.mg X.base CX k f fd ps sp) (hr : RoomG (k + 1) X.A) (hb : KBn X.K fd ps n [] g gV) (hx : Passes CX X E) (hm : OwnM X.K C "__repr__" f) : CallR X (.builtin "repr") (rOwnS C (rFn n 0 sp gV E)) := by
  intro pins s σ H xs us Q I rv h
  obtain ⟨a, dx, fs, rfl, ha, q⟩ := h
  obtain rfl : us = [.ref a] := by
    cases rv with
    | cons r1 rn => cases rn; cases (show _ = Value.ref a from r1); rfl
  obtain ⟨ox, od, J⟩ := at_of I ha
  obtain ⟨m, Fr⟩ := fr_of I
  have fin := runA F hr.in1 hb hx I I.env0.in1 rv q
  have hu := hu_of hr.in1.r
  refine PySem.W.repr_K (by omega) Fr I.ok.mod.kin J hm.at_ hm.fn (wpAny_mono fin (fun u s' hz => ?_) fun _ _ e => e)
  obtain ⟨v, H', I', r', z, rfl, q'⟩ := hz
  obtain ⟨t, rfl⟩ := id r'
  exact ⟨.str z, H', I', r', q'⟩
/-- repr of data: the text that shown tells -/
def rReprD (K : PySem.W.Frag) : List V → Hp → VK → Prop := fun xs H Q => ∃ a d, xs = [.ref a] ∧ Dp K H (.ref a) d ∧ d.showable = true ∧ d.hasDict = false ∧ d.depth ≤ 60 ∧ d.shown.length ≤ sizeLine ∧ Q (.str d.shown) H
theorem call_reprD (hr : RoomG k X.A) : CallR X (.builtin "repr") (rReprD X.K) := by
  intro pins s σ H xs us Q I rv h
  obtain ⟨a, d, rfl, hd, sh, nd, dp, sz, q⟩ := h
  obtain rfl : us = [.ref a] := by
    cases rv with
    | cons r1 rn => cases rn; cases (show _ = Value.ref a from r1); rfl
  obtain ⟨as, r⟩ := Dp.reads I d (.ref a) (.ref a) hd rfl
  have hu := hr.r.un
  refine repr_of_reads' r sh (fun z => by rw [nd] at z; cases z) hr.g (by omega) (fun b o e => e) (fun h' u tk hk => ?_) sz
  exact ⟨.str d.shown, H, I.kept hk, ⟨u, rfl⟩, q⟩
end
end DV

set_option autoImplicit false
set_option linter.all false
set_option maxRecDepth 100000
set_option maxHeartbeats 2000000
/-! Built-in operations over data. -/
namespace DV
open PySem PySem.Spec PyProof.Rows L2
section
variable {X : Cx}
/-- list + list, of lists of any make -/
def rCatA (K : PySem.W.Frag) : R2 := fun x y H Q => ∃ l b xs zs, x = .ref l ∧ y = .ref b ∧ SqL K H l xs ∧ SqL K H b zs ∧ xs.length + zs.length ≤ sizeLine ∧ ∀ p, H p = none → Q (.ref p) (upd H p (.lst (xs ++ zs)))
theorem list_addA {l b : Addr} {its its2 : Array Value} (hc0 : its.size + its2.size ≤ sizeLine) :
    Meets (Builtin.«list.__add__» ⟨[.ref l, .ref b], []⟩) (fun _ R s => PlainL s.heap l its ∧ PlainL s.heap b its2 ∧ R (.ok (.ret (Value.ref s.heap.objs.size))) { s with heap := s.heap.push { cls := Value.type "list", data := Data.seq (its ++ its2) }, toks := s.toks }) :=
  .of_wp fun prog w A R s h => by
    obtain ⟨hp, g, d, tk, os⟩ := s
    obtain ⟨⟨⟨c1, d1, t1, s1⟩, n1, hl, e1, e2, e3⟩, ⟨⟨c2, d2, t2, s2⟩, n2, hb, e4, e5, e6⟩, h⟩ := h
    simp only at e1 e2 e3 e4 e5 e6
    subst e1 e2 e3 e4 e5 e6
    have f3 := AutoSeq1.sub_list_list
    wp_walk using AutoSeq1.wpAny_loadPart' hl, AutoSeq1.wpAny_loadPart' hb
    exact ⟨_, rfl, h⟩
theorem op_catA : OpR X (binaryOp .Add) (rCatA X.K) := by
  intro pins s σ H x y v u Q I rx ry h
  obtain ⟨l, b, xs, zs, rfl, rfl, hH, hB, hz, q⟩ := h
  cases (show v = Value.ref l from rx)
  cases (show u = Value.ref b from ry)
  obtain ⟨its, r, p, _⟩ := I.list hH
  obtain ⟨its2, r2, p2, _⟩ := I.list hB
  have e1 := r.length
  have e2 := r2.length
  refine concat_meets p.isList.typeIs p2.isList.typeIs PySem.noFill_list_add PySem.seq_list_add PySem.F.slot_list_add PySem.F.entry_list_add (PySem.F.args_list_add_2 _ _) (list_addA (its := its.toArray) (its2 := its2.toArray) (by rw [List.size_toArray, List.size_toArray]; omega)) ⟨p, p2, ?_⟩
  have ea : its.toArray ++ its2.toArray = (its ++ its2).toArray := by simp
  rw [ea]
  exact ⟨.ref _, _, I.lnew (t' := s.toks) (r.append r2) (by rw [List.length_append]; omega), rfl, q _ I.fresh⟩
/-- // by a divisor of fewer than 9000 bits -/
def CFd (i j : Int) : Prop := j ≠ 0 ∧ j.natAbs.log2 < 9000
theorem op_fdA : OpR X (binaryOp .FloorDiv) (rI CFd fun i j => .int (i.fdiv j)) := opI fun i j _ _ _ _ _ hc q => floordiv_int hc.1 q (.inl (PyProof.noPylong_of_log2 hc.2))
end
/-! ### readings for any built-in operands -/
section
variable (K : PySem.W.Frag)
def bAdd : R2 := fun x y H Q => rI0 (fun i j => .int (i + j)) x y H Q ∨ rAddS x y H Q ∨ rCatA K x y H Q
def bSub : R2 := rI0 fun i j => .int (i - j)
def bMul : R2 := rI CMulW fun i j => .int (i * j)
def bFd : R2 := rI CFd fun i j => .int (i.fdiv j)
def bMod : R2 := rI (fun _ j => j ≠ 0) fun i j => .int (i.fmod j)
def bPow : R2 := rI CPow fun i j => .int (i ^ j.toNat)
def bEq : R2 := fun x y H Q => rEq x y H Q ∨ rEqD K x y H Q
def bNe : R2 := fun x y H Q => rNe x y H Q ∨ rNeD K x y H Q
def bLt : R2 := rI0 fun i j => .bl (decide (i < j))
def bLe : R2 := rI0 fun i j => .bl (decide (i ≤ j))
def bGt : R2 := rI0 fun i j => .bl (decide (j < i))
def bGe : R2 := rI0 fun i j => .bl (decide (j ≤ i))
def bIs : R2 := fun x y H Q => rIsB x y H Q ∨ rIsN x y H Q
def bNeg : V → Hp → VK → Prop := rU fun i => .int (-i)
end
section
variable {X : Cx} {k : Nat}
theorem o_add : OpR X (binaryOp .Add) (bAdd X.K) := op_add.or (op_add_str.or op_catA)
theorem o_sub : OpR X (binaryOp .Sub) bSub := op_sub
theorem o_mul : OpR X (binaryOp .Mult) bMul := op_mulW
theorem o_fd : OpR X (binaryOp .FloorDiv) bFd := op_fdA
theorem o_mod : OpR X (binaryOp .Mod) bMod := op_modN
theorem o_pow : OpR X (binaryOp .Pow) bPow := op_pow
theorem o_eq (hr : RoomG k X.A) : OpR X (compareOp .Eq) (bEq X.K) := op_eq.or (op_eqD (by have := hr.r.un; omega))
theorem o_ne (hr : RoomG k X.A) : OpR X (compareOp .NotEq) (bNe X.K) := op_ne.or (op_neD (by have := hr.r.un; omega))
theorem o_lt : OpR X (compareOp .Lt) bLt := op_lt
theorem o_le : OpR X (compareOp .LtE) bLe := op_le
theorem o_gt : OpR X (compareOp .Gt) bGt := op_gt
theorem o_ge : OpR X (compareOp .GtE) bGe := op_ge
theorem o_is : OpR X (compareOp .Is) bIs := op_isBl.or op_isN
theorem o_neg : UnR X (unaryOp .USub) bNeg := un_neg
end
/-! ### what they make of data -/
section
variable {c : Ct} {cs : Cells} {r r' : R2} {a b : Dat} {P : Dat → Prop} {i j : Int}
theorem ROP.inl (h : ROP c cs r a b P) : ROP c cs (fun x y H Q => r x y H Q ∨ r' x y H Q) a b P := fun G H x y I R ra rb Q q => .inl (h G H x y I R ra rb Q q)
theorem ROP.inr (h : ROP c cs r' a b P) : ROP c cs (fun x y H Q => r x y H Q ∨ r' x y H Q) a b P := fun G H x y I R ra rb Q q => .inr (h G H x y I R ra rb Q q)
theorem d_I0 {g : Int → Int → V} {d : Dat} (h : ∀ G, Rep c.K G d (g i j)) : ROD c cs (rI0 g) (.int i) (.int j) d := fun G H x y I R ra rb Q q => ⟨i, j, ra, rb, q d _ G H rfl (Step.refl I) (h G)⟩
theorem d_I {C : Int → Int → Prop} {g : Int → Int → V} {d : Dat} (hc : C i j) (h : ∀ G, Rep c.K G d (g i j)) : ROD c cs (rI C g) (.int i) (.int j) d := fun G H x y I R ra rb Q q => ⟨i, j, ra, rb, hc, q d _ G H rfl (Step.refl I) (h G)⟩
theorem d_add : ROD c cs (bAdd c.K) (.int i) (.int j) (.int (i + j)) := ROP.inl (d_I0 fun _ => rfl)
theorem d_sub : ROD c cs bSub (.int i) (.int j) (.int (i - j)) := d_I0 fun _ => rfl
theorem d_mul (h : CMulW i j) : ROD c cs bMul (.int i) (.int j) (.int (i * j)) := d_I h fun _ => rfl
theorem d_fd (h : CFd i j) : ROD c cs bFd (.int i) (.int j) (.int (i.fdiv j)) := d_I h fun _ => rfl
theorem d_mod (h : j ≠ 0) : ROD c cs bMod (.int i) (.int j) (.int (i.fmod j)) := d_I h fun _ => rfl
theorem d_pow (h : CPow i j) : ROD c cs bPow (.int i) (.int j) (.int (i ^ j.toNat)) := d_I h fun _ => rfl
theorem d_lt : ROD c cs bLt (.int i) (.int j) (.bl (decide (i < j))) := d_I0 fun _ => rfl
theorem d_le : ROD c cs bLe (.int i) (.int j) (.bl (decide (i ≤ j))) := d_I0 fun _ => rfl
theorem d_gt : ROD c cs bGt (.int i) (.int j) (.bl (decide (j < i))) := d_I0 fun _ => rfl
theorem d_ge : ROD c cs bGe (.int i) (.int j) (.bl (decide (j ≤ i))) := d_I0 fun _ => rfl
theorem d_addS {x y : Str} (h : x.length + y.length ≤ sizeLine) : ROD c cs (bAdd c.K) (.str x) (.str y) (.str (x ++ y)) := ROP.inr (ROP.inl fun G H u v I R ra rb Q q => ⟨x, y, ra, rb, h, q (.str (x ++ y)) _ G H rfl (Step.refl I) rfl⟩)
theorem d_addL {xs ys : List Dat} (h : xs.length + ys.length ≤ 100000) : ROD c cs (bAdd c.K) (.lst xs) (.lst ys) (.lst (xs ++ ys)) := ROP.inr (ROP.inr fun G H u v I R ra rb Q q => by
  obtain ⟨a, vs, rfl, ha, r1⟩ := ra
  obtain ⟨b, us, rfl, hb, r2⟩ := rb
  refine ⟨a, b, vs, us, rfl, rfl, ex_l I.ex ha, ex_l I.ex hb, by rw [r1.len, r2.len]; exact Nat.le_trans h (by decide), fun p hp => ?_⟩
  have n := Step.new I (o := .lst (vs ++ us)) hp
  exact q (.lst (xs ++ ys)) _ _ _ rfl n ⟨p, _, rfl, SqL.of upd_same, (r1.mono n.g).app (r2.mono n.g)⟩)
theorem d_eqI : ROD c cs (bEq c.K) (.int i) (.int j) (.bl (decide (i = j))) := ROP.inl fun G H u v I R ra rb Q q => by
  rw [show u = V.int i from ra, show v = V.int j from rb]
  exact ⟨rfl, by rw [show decide (V.int i = V.int j) = decide (i = j) by simp]; exact q _ _ G H rfl (Step.refl I) rfl⟩
theorem d_neI : ROD c cs (bNe c.K) (.int i) (.int j) (.bl (!decide (i = j))) := ROP.inl fun G H u v I R ra rb Q q => by
  rw [show u = V.int i from ra, show v = V.int j from rb]
  exact ⟨rfl, by rw [show decide (V.int i = V.int j) = decide (i = j) by simp]; exact q _ _ G H rfl (Step.refl I) rfl⟩
theorem d_eqS {i j : Str} : ROD c cs (bEq c.K) (.str i) (.str j) (.bl (decide (i = j))) := ROP.inl fun G H u v I R ra rb Q q => by
  rw [show u = V.str i from ra, show v = V.str j from rb]
  exact ⟨rfl, by rw [show decide (V.str i = V.str j) = decide (i = j) by simp]; exact q _ _ G H rfl (Step.refl I) rfl⟩
theorem d_neS {i j : Str} : ROD c cs (bNe c.K) (.str i) (.str j) (.bl (!decide (i = j))) := ROP.inl fun G H u v I R ra rb Q q => by
  rw [show u = V.str i from ra, show v = V.str j from rb]
  exact ⟨rfl, by rw [show decide (V.str i = V.str j) = decide (i = j) by simp]; exact q _ _ G H rfl (Step.refl I) rfl⟩
theorem d_eqB {i j : Bool} : ROD c cs (bEq c.K) (.bl i) (.bl j) (.bl (decide (i = j))) := ROP.inl fun G H u v I R ra rb Q q => by
  rw [show u = V.bl i from ra, show v = V.bl j from rb]
  exact ⟨rfl, by rw [show decide (V.bl i = V.bl j) = decide (i = j) by simp]; exact q _ _ G H rfl (Step.refl I) rfl⟩
theorem d_neB {i j : Bool} : ROD c cs (bNe c.K) (.bl i) (.bl j) (.bl (!decide (i = j))) := ROP.inl fun G H u v I R ra rb Q q => by
  rw [show u = V.bl i from ra, show v = V.bl j from rb]
  exact ⟨rfl, by rw [show decide (V.bl i = V.bl j) = decide (i = j) by simp]; exact q _ _ G H rfl (Step.refl I) rfl⟩
theorem d_isB {i j : Bool} : ROD c cs bIs (.bl i) (.bl j) (.bl (decide (i = j))) := ROP.inl fun G H u v I R ra rb Q q => ⟨i, j, ra, rb, q _ _ G H rfl (Step.refl I) rfl⟩
theorem d_neg : RUP c cs bNeg (.int i) (fun d => d = .int (-i)) := fun G H u I R ra Q q => ⟨i, ra, q _ _ G H rfl (Step.refl I) rfl⟩
end
/-! data as the library knows it -/
mutual
def toP : Dat → PyData
  | .bl b => .bool b
  | .int i => .int i
  | .str x => .str x
  | .tup ds => .tuple (toPs ds)
  | .lst ds => .list (toPs ds)
  | _ => .none
def toPs : List Dat → List PyData
  | [] => []
  | d :: ds => toP d :: toPs ds
end
mutual
def plain : Dat → Bool
  | .non => true
  | .bl _ => true
  | .int _ => true
  | .str _ => true
  | .tup ds => plains ds
  | .lst ds => plains ds
  | _ => false
def plains : List Dat → Bool
  | [] => true
  | d :: ds => plain d && plains ds
end
section
variable {K : PySem.W.Frag} {H : Hp}
mutual
theorem Rep.dp : ∀ (d : Dat) (v : V), plain d = true → Rep K H d v → Dp K H v (toP d)
  | .non, v, _, h => by cases (show v = V.non from h); exact .non
  | .bl b, v, _, h => by cases (show v = V.bl b from h); exact .bl b
  | .int i, v, _, h => by cases (show v = V.int i from h); exact .int i
  | .str x, v, _, h => by cases (show v = V.str x from h); exact .str x
  | .tup ds, v, p, h => by
    obtain ⟨a, xs, rfl, h2, h3⟩ := h
    exact .tup h2 (Reps.dp ds xs p h3)
  | .lst ds, v, p, h => by
    obtain ⟨a, xs, rfl, h2, h3⟩ := h
    exact .lst h2 (Reps.dp ds xs p h3)
  | .obj u, v, p, h => by cases p
  | .ins C fs ds, v, p, h => by cases p
  | .dct ks ds, v, p, h => by cases p
theorem Reps.dp : ∀ (ds : List Dat) (vs : List V), plains ds = true → Reps K H ds vs → DpAll K H vs (toPs ds)
  | [], vs, _, h => by cases (show vs = [] from h); exact .nil
  | d :: ds, vs, p, h => by
    obtain ⟨v, r, rfl, h2, h3⟩ := h
    obtain ⟨p1, p2⟩ := Bool.and_eq_true_iff.mp (show (plain d && plains ds) = true from p)
    exact .cons (Rep.dp d v p1 h2) (Reps.dp ds r p2 h3)
end
end
def shp (d : Dat) : Bool := plain d && SeqAt.shaped (toP d)
section
variable {c : Ct} {cs : Cells} {a b d : Dat} {P : Dat → Prop}
theorem d_eqD (h1 : shp a = true) (h2 : shp b = true) : ROD c cs (bEq c.K) a b (.bl (PyData.eqv (toP a) (toP b))) := ROP.inr fun G H u v I R ra rb Q q => by
  obtain ⟨p1, s1⟩ := Bool.and_eq_true_iff.mp h1
  obtain ⟨p2, s2⟩ := Bool.and_eq_true_iff.mp h2
  exact ⟨_, _, Rep.dp a u p1 (ra.mono I.ex), Rep.dp b v p2 (rb.mono I.ex), s1, s2, q _ _ G H rfl (Step.refl I) rfl⟩
theorem d_neD (h1 : shp a = true) (h2 : shp b = true) : ROD c cs (bNe c.K) a b (.bl (!PyData.eqv (toP a) (toP b))) := ROP.inr fun G H u v I R ra rb Q q => by
  obtain ⟨p1, s1⟩ := Bool.and_eq_true_iff.mp h1
  obtain ⟨p2, s2⟩ := Bool.and_eq_true_iff.mp h2
  exact ⟨_, _, Rep.dp a u p1 (ra.mono I.ex), Rep.dp b v p2 (rb.mono I.ex), s1, s2, q _ _ G H rfl (Step.refl I) rfl⟩
def rpr (d : Dat) : Bool := plain d && (toP d).showable && !(toP d).hasDict && decide ((toP d).depth ≤ 60)
theorem d_repr {ds : List Dat} (h : rpr (.lst ds) = true) (hl : (toP (.lst ds)).shown.length ≤ sizeLine) : RCP c cs (rReprD c.K) [.lst ds] (fun d => d = .str (toP (.lst ds)).shown) := fun G H xs I R rs Q q => by
  obtain ⟨x, rfl, rx⟩ := rs.only
  obtain ⟨h, h4⟩ := Bool.and_eq_true_iff.mp h
  obtain ⟨h, h3⟩ := Bool.and_eq_true_iff.mp h
  obtain ⟨h1, h2⟩ := Bool.and_eq_true_iff.mp h
  have dp := Rep.dp _ x h1 (rx.mono I.ex)
  obtain ⟨a, vs, rfl, _⟩ := rx
  exact ⟨a, _, rfl, dp, h2, by simpa using h3, of_decide_eq_true h4, hl, q _ _ G H rfl (Step.refl I) rfl⟩
end
end DV

set_option autoImplicit false
set_option linter.all false
set_option maxRecDepth 100000
set_option maxHeartbeats 2000000
namespace DV
open PySem PySem.Spec PyProof.Rows L2
/-! ### readings of built-in calls -/
def bAbs : List V → Hp → VK → Prop := fun xs H Q => ∃ i, xs = [.int i] ∧ Q (.int (if i < 0 then -i else i)) H
def bMax : List V → Hp → VK → Prop := fun xs H Q => ∃ i j, xs = [.int i, .int j] ∧ Q (.int (if j > i then j else i)) H
def bMin : List V → Hp → VK → Prop := fun xs H Q => ∃ i j, xs = [.int i, .int j] ∧ Q (.int (if j < i then j else i)) H
def bInt : List V → Hp → VK → Prop := fun xs H Q => (∃ i, xs = [.int i] ∧ Q (.int i) H) ∨ ∃ k, xs = [.bl k] ∧ Q (.int (if k then 1 else 0)) H
def bStr : List V → Hp → VK → Prop := fun xs H Q => ∃ i, xs = [.int i] ∧ i.natAbs.log2 < 1920 ∧ Q (.str (toString i)) H
def bLen (K : PySem.W.Frag) : List V → Hp → VK → Prop := fun xs H Q => ∃ x n, xs = [x] ∧ LenV K x H n ∧ Q (.int n) H
def bTup (K : PySem.W.Frag) : List V → Hp → VK → Prop := fun xs H Q => ∃ p ys, xs = [.ref p] ∧ ((SqL K H p ys ∧ ∀ l, H l = none → Q (.ref l) (upd H l (.tup ys))) ∨ (SqT K H p ys ∧ Q (.ref p) H))
def bDivmod : List V → Hp → VK → Prop := fun xs H Q => ∃ i j, xs = [.int i, .int j] ∧ CDivP i j ∧ ∀ p, H p = none → Q (.ref p) (upd H p (.tup [.int (i / j), .int (i % j)]))
def bIsi (K : PySem.W.Frag) : List V → Hp → VK → Prop := fun xs H Q => rIsi K xs H Q ∨ rIsiT K xs H Q
section
variable {X : Cx}
theorem k_abs : CallR X (.builtin "abs") bAbs := call_abs
theorem k_max (hc : X.calm = true) : CallR X (.builtin "max") bMax := call_max2 hc
theorem k_min (hc : X.calm = true) : CallR X (.builtin "min") bMin := call_min2 hc
theorem k_int : CallR X (.type "int") bInt := call_int1
theorem k_str : CallR X (.type "str") bStr := call_str_int
theorem k_len : CallR X (.builtin "len") (bLen X.K) := call_len
theorem k_tup : CallR X (.type "tuple") (bTup X.K) := call_tuple_of
theorem k_divmod : CallR X (.builtin "divmod") bDivmod := call_divmodW
theorem k_isi : CallR X (.builtin "isinstance") (bIsi X.K) := CallR.or call_isi call_isiT
end
/-! ### over data -/
section
variable {c : Ct} {cs : Cells} {a b d : Dat} {P : Dat → Prop} {i j : Int} {ds : List Dat} {te : TE} {Δ : Sts}
theorem Reps.atI {K : PySem.W.Frag} {H : Hp} {vs : List V} (r : Reps K H ds vs) (h : L2.atI ds i = some d) : ∃ v, L2.atI vs i = some v ∧ Rep K H d v := by
  unfold L2.atI at h ⊢
  rw [r.len]
  cases e : L2.ixN ds.length i with
  | none => rw [e] at h; cases h
  | some j =>
    rw [e] at h
    exact r.get h
theorem d_ixL (h : L2.atI ds i = some d) : ROD c cs (rIx c.K) (.lst ds) (.int i) d := fun G H u v I R ra rb Q q => by
  obtain ⟨p, xs, rfl, hq, rs⟩ := ra
  obtain ⟨w, h1, h2⟩ := rs.atI h
  exact .inl ⟨p, xs, i, w, rfl, rb, ex_l I.ex hq, h1, q d w G H rfl (Step.refl I) h2⟩
theorem d_ixT (h : L2.atI ds i = some d) : ROD c cs (rIx c.K) (.tup ds) (.int i) d := fun G H u v I R ra rb Q q => by
  obtain ⟨p, xs, rfl, hq, rs⟩ := ra
  obtain ⟨w, h1, h2⟩ := rs.atI h
  exact .inr (.inl ⟨p, xs, i, w, rfl, rb, ex_t I.ex hq, h1, q d w G H rfl (Step.refl I) h2⟩)
theorem d_abs : RCD c cs bAbs [.int i] (.int i.natAbs) := fun G H xs I R rs Q q => by
  obtain ⟨x, rfl, rx⟩ := rs.only
  rw [show x = V.int i from rx]
  refine ⟨i, rfl, ?_⟩
  rw [show (if i < 0 then -i else i) = (i.natAbs : Int) by split <;> omega]
  exact q _ _ G H rfl (Step.refl I) rfl
theorem d_max : RCD c cs bMax [.int i, .int j] (.int (max i j)) := fun G H xs I R rs Q q => by
  obtain ⟨x, y, rfl, rx, ry⟩ := rs.two
  rw [show x = V.int i from rx, show y = V.int j from ry]
  refine ⟨i, j, rfl, ?_⟩
  rw [show (if j > i then j else i) = max i j by split <;> omega]
  exact q _ _ G H rfl (Step.refl I) rfl
theorem d_min : RCD c cs bMin [.int i, .int j] (.int (min i j)) := fun G H xs I R rs Q q => by
  obtain ⟨x, y, rfl, rx, ry⟩ := rs.two
  rw [show x = V.int i from rx, show y = V.int j from ry]
  refine ⟨i, j, rfl, ?_⟩
  rw [show (if j < i then j else i) = min i j by split <;> omega]
  exact q _ _ G H rfl (Step.refl I) rfl
theorem d_intI : RCD c cs bInt [.int i] (.int i) := fun G H xs I R rs Q q => by
  obtain ⟨x, rfl, rx⟩ := rs.only
  rw [show x = V.int i from rx]
  exact .inl ⟨i, rfl, q _ _ G H rfl (Step.refl I) rfl⟩
theorem d_intB {k : Bool} : RCD c cs bInt [.bl k] (.int (if k then 1 else 0)) := fun G H xs I R rs Q q => by
  obtain ⟨x, rfl, rx⟩ := rs.only
  rw [show x = V.bl k from rx]
  exact .inr ⟨k, rfl, q _ _ G H rfl (Step.refl I) rfl⟩
/-- an int's text -/
def txt (i : Int) : Str := Str.ofString (toString i)
theorem d_str (h : i.natAbs.log2 < 1920) : RCD c cs bStr [.int i] (.str (txt i)) := fun G H xs I R rs Q q => by
  obtain ⟨x, rfl, rx⟩ := rs.only
  rw [show x = V.int i from rx]
  exact ⟨i, rfl, h, q (.str (txt i)) _ G H rfl (Step.refl I) rfl⟩
theorem d_lenL : RCD c cs (bLen c.K) [.lst ds] (.int ds.length) := fun G H xs I R rs Q q => by
  obtain ⟨x, rfl, a, vs, rfl, h, r⟩ := rs.only
  exact ⟨_, vs.length, rfl, .inl ⟨vs, ex_l I.ex h, rfl⟩, q _ _ G H rfl (Step.refl I) (by rw [r.len]; rfl)⟩
theorem d_lenT : RCD c cs (bLen c.K) [.tup ds] (.int ds.length) := fun G H xs I R rs Q q => by
  obtain ⟨x, rfl, a, vs, rfl, h, r⟩ := rs.only
  exact ⟨_, vs.length, rfl, .inr ⟨vs, ex_t I.ex h, rfl⟩, q _ _ G H rfl (Step.refl I) (by rw [r.len]; rfl)⟩
theorem d_tupL : RCD c cs (bTup c.K) [.lst ds] (.tup ds) := fun G H xs I R rs Q q => by
  obtain ⟨x, rfl, a, vs, rfl, h, r⟩ := rs.only
  refine ⟨a, vs, rfl, .inl ⟨ex_l I.ex h, fun p hp => ?_⟩⟩
  have n := Step.new I (o := .tup vs) hp
  exact q _ _ _ _ rfl n ⟨p, vs, rfl, SqT.of upd_same, r.mono n.g⟩
theorem d_tupT : RCD c cs (bTup c.K) [.tup ds] (.tup ds) := fun G H xs I R rs Q q => by
  obtain ⟨x, rfl, a, vs, rfl, h, r⟩ := rs.only
  exact ⟨a, vs, rfl, .inr ⟨ex_t I.ex h, q _ _ G H rfl (Step.refl I) ⟨a, vs, rfl, h, r⟩⟩⟩
theorem d_divmod (h : CDivP i j) : RCD c cs bDivmod [.int i, .int j] (.tup [.int (i / j), .int (i % j)]) := fun G H xs I R rs Q q => by
  obtain ⟨x, y, rfl, rx, ry⟩ := rs.two
  rw [show x = V.int i from rx, show y = V.int j from ry]
  refine ⟨i, j, rfl, h, fun p hp => ?_⟩
  have n := Step.new I (o := .tup [.int (i / j), .int (i % j)]) hp
  exact q _ _ _ _ rfl n ⟨p, _, rfl, SqT.of upd_same, _, _, rfl, rfl, _, _, rfl, rfl, rfl⟩
theorem d_all {bs : List Bool} : RCD c cs (rAll c.K) [.lst (bs.map Dat.bl)] (.bl (bs.all id)) := fun G H xs I R rs Q q => by
  obtain ⟨x, rfl, a, vs, rfl, h, r⟩ := rs.only
  have e : vs = bs.map V.bl := by
    clear q R h rs
    induction bs generalizing vs with
    | nil => exact r
    | cons b bs ih =>
      obtain ⟨v, rest, rfl, h2, h3⟩ := r
      rw [ih rest h3, show v = V.bl b from h2]
      rfl
  subst e
  exact ⟨a, bs, rfl, ex_l I.ex h, q _ _ G H rfl (Step.refl I) rfl⟩
/-- x[::-1] of a list -/
theorem d_revL (h : EVD c cs Δ te (.lst ds)) : EVD c cs Δ (tRevL c.K te) (.lst ds.reverse) := fun σ G H s I R Q q =>
  h σ G H s I R _ fun d v G1 H1 e s1 rd => by
    subst e
    obtain ⟨a, xs, rfl, hq, rs⟩ := rd
    refine ⟨a, xs, rfl, ex_l s1.i hq, fun p hp => ?_⟩
    have n := Step.new (s1.inn I) (o := .lst xs.reverse) hp
    exact q _ _ _ _ rfl (s1.trans n) ⟨p, _, rfl, SqL.of upd_same, (rs.mono n.g).rev⟩
/-! isinstance -/
/-- what data's type is -/
def tyD : Dat → Value
  | .non => .type "NoneType"
  | .bl _ => .type "bool"
  | .int _ => .type "int"
  | .str _ => .type "str"
  | .tup _ => .type "tuple"
  | .lst _ => .type "list"
  | .ins C _ _ => .ref C
  | .dct _ _ => .type "dict"
  | .obj _ => .none
/-- what isinstance asks of a class of instances -/
structure IsiC (K : PySem.W.Frag) (C : Addr) : Prop where
  cl : Cls K C
  ha : PySem.W.findIn K (.ref C) "__class__" = some (some (.builtin "object.__class__"))
  hn : PySem.W.specialIn K (.builtin "object.__class__") "__get__" = some (some (.builtin "getset_descriptor.__get__"))
  htk : PySem.W.takesIn K (.builtin "object.__class__") = some true
  hm : PySem.W.mroIn K C (.type "object") = some true
def isiOk (K : PySem.W.Frag) : Dat → Prop
  | .ins C _ _ => IsiC K C
  | .obj _ => False
  | _ => True
theorem tyx_l {K : PySem.W.Frag} {H : Hp} {a : Addr} {xs : List V} (h : SqL K H a xs) : TyX K H (.ref a) (.type "list") := by
  rcases h with (h | ⟨o, h⟩) | ⟨o, its, n, h1, h2, _⟩
  · exact .base (.lst h)
  · exact .base (.frz h)
  · exact .kList h1 h2
theorem tyx_t {K : PySem.W.Frag} {H : Hp} {a : Addr} {xs : List V} (h : SqT K H a xs) : TyX K H (.ref a) (.type "tuple") := by
  rcases h with (h | ⟨o, h⟩) | ⟨o, its, n, h1, h2, _⟩
  · exact .base (.tup h)
  · exact .fTuple h
  · exact .kTuple h1 h2
theorem Rep.tyx {K : PySem.W.Frag} {H : Hp} {v : V} (hk : isiOk K d) (h : Rep K H d v) : TyX K H v (tyD d) := by
  cases d with
  | non => cases (show v = V.non from h); exact .base .non
  | bl b => cases (show v = V.bl b from h); exact .base (.bl b)
  | int i => cases (show v = V.int i from h); exact .base (.int i)
  | str x => cases (show v = V.str x from h); exact .base (.str x)
  | tup ds => obtain ⟨a, xs, rfl, h2, _⟩ := h; exact tyx_t h2
  | lst ds => obtain ⟨a, xs, rfl, h2, _⟩ := h; exact tyx_l h2
  | ins C fs ds => obtain ⟨a, dx, xs, rfl, h2, _⟩ := h; exact .base (.ins h2 hk.cl hk.ha hk.hn hk.htk hk.hm)
  | dct ks ds => obtain ⟨a, xs, rfl, h2, _⟩ := h; exact .base (.dK h2)
  | obj u => exact hk.elim
theorem d_isiT {n : String} {k : Bool} (hk : isiOk c.K d) (h : PySem.W.kitOne c.K (tyD d) (.type n) = some k) : RCD c cs (bIsi c.K) [d, .obj (.ty n)] (.bl k) := fun G H xs I R rs Q q => by
  obtain ⟨x, y, rfl, rx, ry⟩ := rs.two
  rw [show y = V.ty n from ry]
  exact .inl ⟨x, _, _, _, k, rfl, .ty n, Rep.tyx hk (rx.mono I.ex), h, q _ _ G H rfl (Step.refl I) rfl⟩
theorem d_isiC {C : Addr} {k : Bool} (hk : isiOk c.K d) (h : PySem.W.kitOne c.K (tyD d) (.ref C) = some k) : RCD c cs (bIsi c.K) [d, .obj (.ref C)] (.bl k) := fun G H xs I R rs Q q => by
  obtain ⟨x, y, rfl, rx, ry⟩ := rs.two
  rw [show y = V.ref C from ry]
  exact .inl ⟨x, _, _, _, k, rfl, .own C, Rep.tyx hk (rx.mono I.ex), h, q _ _ G H rfl (Step.refl I) rfl⟩
/-- isinstance(e, (c1, .., cn)): the tuple is written there -/
theorem ev_isiT {tr : TA} {ns : List String} {k : Bool} (ha : EVD c cs Δ te d) (ht : EVL c cs Δ tr (ns.map fun n => .obj (.ty n))) (hl : ns.length ≤ 100000) (hk : isiOk c.K d) (h : PySem.W.kitAny c.K (tyD d) (ns.map Value.type) = some k) :
    EVD c cs Δ (tCB (bIsi c.K) (tCons te (tCons (tTup tr) tNil))) (.bl k) := fun σ G H s I R Q q =>
  ha σ G H s I R _ fun d' v G1 H1 e s1 rd => by
    subst e
    refine ht σ G1 H1 (s.mono s1.g) (s1.inn I) (R.on s1) _ fun ds' vs G2 H2 e s2 rv => ?_
    subst e
    refine ⟨Nat.le_trans (by rw [rv.len, List.length_map]; exact hl) (by decide), fun p hp => ?_⟩
    have n := Step.new (s2.inn (s1.inn I)) (o := .tup vs) hp
    have e : vs = ns.map V.ty := by
      clear h ht n hp
      induction ns generalizing vs with
      | nil => exact rv
      | cons b bs ih =>
        obtain ⟨v, rest, rfl, h2, h3⟩ := rv
        rw [ih (by simp at hl; omega) rest h3, show v = V.ty b from h2]
        rfl
    have pr : Paired ClsV vs (ns.map Value.type) := by
      rw [e]
      clear e h ht n hp rv
      induction ns with
      | nil => exact .nil
      | cons b bs ih => exact .cons (.ty b) (ih (by simp at hl; omega))
    exact .inr ⟨v, p, vs, _, ns.map Value.type, k, rfl, upd_same, pr, Rep.tyx hk ((rd.mono s2.g).mono (n.g.trans n.i)), h, q _ _ _ _ rfl ((s1.trans s2).trans n) rfl⟩
/-! f-strings -/
theorem d_fmtS {z : Str} (h : EVD c cs Δ te (.str z)) (hz : z.length ≤ sizeLine) : EVD c cs Δ (tFmt te) (.str z) := fun σ G H s I R Q q =>
  h σ G H s I R _ fun d v G1 H1 e s1 rd => by
    subst e
    exact .inl ⟨z, rd, hz, q _ _ G1 H1 rfl s1 rfl⟩
theorem d_fmtI (h : EVD c cs Δ te (.int i)) (hz : i.natAbs.log2 < 1920) : EVD c cs Δ (tFmt te) (.str (txt i)) := fun σ G H s I R Q q =>
  h σ G H s I R _ fun d v G1 H1 e s1 rd => by
    subst e
    exact .inr ⟨i, rd, hz, q (.str (txt i)) _ G1 H1 rfl s1 rfl⟩
/-- the texts one behind the other -/
def EVJ (c : Ct) (cs : Cells) (Δ : Sts) (ts : List TE) (acc out : Str) : Prop :=
  ∀ σ G H, Sig c.K G σ Δ → Inn c.K c.W cs G H → Raises c G H → ∀ Q : Str → Hp → Prop, (∀ G2 H2, Step c.W G H G2 H2 → Q out H2) → tJs ts acc σ H Q
theorem j_nil {acc : Str} : EVJ c cs Δ [] acc acc := fun σ G H s I R Q q => q G H (Step.refl I)
theorem j_cons {acc z out : Str} {ts : List TE} (h : EVD c cs Δ te (.str z)) (hz : (acc ++ z).length ≤ sizeLine) (hr : EVJ c cs Δ ts (acc ++ z) out) : EVJ c cs Δ (te :: ts) acc out := fun σ G H s I R Q q =>
  h σ G H s I R _ fun d v G1 H1 e s1 rd => by
    subst e
    exact ⟨z, rd, hz, hr σ G1 H1 (s.mono s1.g) (s1.inn I) (R.on s1) Q fun G2 H2 s2 => q G2 H2 (s1.trans s2)⟩
theorem d_joined {ts : List TE} {out : Str} (h : EVJ c cs Δ ts Str.empty out) : EVD c cs Δ (fun σ H Q => tJs ts Str.empty σ H fun out H1 => Q (.str out) H1) (.str out) := fun σ G H s I R Q q =>
  h σ G H s I R _ fun G2 H2 s2 => q _ _ G2 H2 rfl s2 rfl
end
end DV

set_option autoImplicit false
set_option linter.all false
set_option maxRecDepth 100000
set_option maxHeartbeats 2000000
/-! Families of promises: for each x of α the data that come in, what must hold, the data that come out. -/
namespace DV
open PySem PySem.Spec PyProof.Rows L2
structure FS (α : Type) where
  arg : α → List Dat
  ok : Wld → α → Prop := fun _ _ => True
  res : α → Dat → Prop
  xp : α → Exc → Prop := fun _ _ => False
def FS.sp {α : Type} (S : FS α) (K : PySem.W.Frag) : Sp := fun vs H Q E => ∃ x, FSp K (fun W ds => ds = S.arg x ∧ S.ok W x) (fun _ => S.res x) (fun _ => S.xp x) vs H Q E
structure IS (α : Type) where
  arg : α → List Dat
  ok : Wld → α → Prop := fun _ _ => True
  fs : List Str
  res : α → List Dat → Prop
  xp : α → Exc → Prop := fun _ _ => False
def IS.sp {α : Type} (S : IS α) (C : Addr) (K : PySem.W.Frag) : Sp := fun vs H Q E => ∃ x, ISp K C (fun W ds => ds = S.arg x ∧ S.ok W x) S.fs (fun _ => S.res x) (fun _ => S.xp x) vs H Q E
section
variable {α : Type} {S : FS α} {I : IS α} {K : PySem.W.Frag} {N : List Str} {t : TS} {vs : List V} {H : Hp} {Q : VK} {E : XK} {C : Addr} {n : Nat}
theorem FS.len (h : ∀ x, (S.arg x).length = n) : ∀ vs H Q E, S.sp K vs H Q E → vs.length = n := fun vs H Q E ⟨x, h'⟩ => FSp.len (fun W ds p => by rw [p.1]; exact h x) vs H Q E h'
theorem IS.len (h : ∀ x, (I.arg x).length + 1 = n) : ∀ vs H Q E, I.sp C K vs H Q E → vs.length = n := fun vs H Q E ⟨x, h'⟩ => ISp.len (fun W ds p => by rw [p.1]; exact h x) vs H Q E h'
theorem FS.body (h : S.sp K vs H Q E) (b : ∀ x W, S.ok W x → STS ⟨K, W, E, S.xp x⟩ [] ((S.arg x).map some ++ List.replicate (N.length - (S.arg x).length) none) t { ret := S.res x, nx := fun _ _ => S.res x .non }) : t { nx := fun _ H' => Q .non H', rt := Q } (L2.start N vs) H := by
  obtain ⟨x, h⟩ := h
  refine FSp.body h fun W ds p => ?_
  obtain ⟨rfl, ok⟩ := p
  exact b x W ok
theorem IS.body (h : I.sp C K vs H Q E) (b : ∀ x W p dx, I.ok W x → STS ⟨K, W, E, I.xp x⟩ [(p, .ins C dx [] [])] ((some (.obj (.ref p)) :: (I.arg x).map some) ++ List.replicate (N.length - ((I.arg x).length + 1)) none) t { ret := fun _ => False, nx := fun cs _ => ∃ es, cs = [(p, .ins C dx I.fs es)] ∧ I.res x es }) : t { nx := fun _ H' => Q .non H', rt := Q } (L2.start N vs) H := by
  obtain ⟨x, h⟩ := h
  refine ISp.body h fun W ds p dx pr => ?_
  obtain ⟨rfl, ok⟩ := pr
  exact b x W p dx ok
end
/-! calls -/
abbrev idv : List V → List V → List V := fun vs _ => vs
section
variable {α : Type} {S : FS α} {SI : IS α} {c : Ct} {cs : Cells} {Δ : Sts} {to : TE} {tr tk : TA} {P : Dat → Prop} {es fs : List Dat} {E : XK} {n m : Nat} {gV : List V → List V → List V} {x : α} {C : Addr}
abbrev XO (c : Ct) (E : XK) (xp : Exc → Prop) : Prop := (c.E = E ∧ ∀ x, xp x → c.X x) ∨ ∀ x, ¬ xp x
theorem FS.run {G H : Hp} {vs : List V} {Q : VK} (I : Inn c.K c.W cs G H) (R : Raises c G H) (r : Reps c.K G (S.arg x) vs) (ok : S.ok c.W x) (hx : XO c E (S.xp x)) (q : ∀ d v G2 H2, S.res x d → Step c.W G H G2 H2 → Rep c.K G2 d v → Q v H2) : S.sp c.K vs H Q E :=
  ⟨x, sp_run I R r ⟨rfl, ok⟩ hx q⟩
theorem IS.run {G H : Hp} {ws : List V} {p dx : Addr} {Q : VK} (I : Inn c.K c.W cs G H) (R : Raises c G H) (r : Reps c.K G (SI.arg x) ws) (ok : SI.ok c.W x) (hxp : XO c E (SI.xp x)) (hx : H p = none) (hd : H dx = none) (ne : dx ≠ p)
    (q : ∀ d v G2 H2, (∃ es, d = .ins C SI.fs es ∧ SI.res x es) → Step c.W G H G2 H2 → Rep c.K G2 d v → Q v H2) : SI.sp C c.K (.ref p :: ws) (upd (upd H dx (.own p)) p (.ins C dx [])) (fun v H2 => v = .non ∧ Q (.ref p) H2) E :=
  ⟨x, mk_run I R r ⟨rfl, ok⟩ hxp hx hd ne q⟩
/-- f(e, .., k = v, ..) -/
theorem evp_fs {PA : List Dat → Prop} (ha : EVA c cs Δ tr PA) (hk : EVL c cs Δ tk fs) (h : ∀ es, PA es → es.length = n ∧ ∃ x, Gives c.K gV es fs (S.arg x) ∧ S.ok c.W x ∧ XO c E (S.xp x) ∧ ∀ d, S.res x d → P d) (h2 : fs.length = m) : EVP c cs Δ (tG (rFn n m (S.sp c.K) gV E) tr tk) P := fun σ G H s I R Q k =>
  ha σ G H s I R _ fun es' vs G1 H1 pa s1 rs => hk σ G1 H1 (s.mono s1.g) (s1.inn I) (R.on s1) _ fun fs' zs G2 H2 e2 s2 rz => by
    subst e2
    obtain ⟨h1, x, hg, ok, hx, hq⟩ := h es' pa
    refine ⟨by rw [rs.len, h1], by rw [rz.len, h2], ?_⟩
    exact FS.run (s2.inn (s1.inn I)) ((R.on s1).on s2) (hg G2 vs zs (rs.mono s2.g) rz) ok hx fun d v G3 H3 pd s3 => k d v G3 H3 (hq d pd) ((s1.trans s2).trans s3)
theorem ev_fs (x : α) (ha : EVL c cs Δ tr es) (hk : EVL c cs Δ tk fs) (hg : Gives c.K gV es fs (S.arg x)) (ok : S.ok c.W x) (hx : XO c E (S.xp x)) (h1 : es.length = n := by rfl) (h2 : fs.length = m := by rfl) : EVP c cs Δ (tG (rFn n m (S.sp c.K) gV E) tr tk) (S.res x) :=
  evp_fs ha hk (fun _ e => by subst e; exact ⟨h1, x, hg, ok, hx, fun _ h => h⟩) h2
theorem evp_fsM {mm : Str} {fl : List Str} {Pf : List Dat → Prop} {PA : List Dat → Prop} (ho : EVP c cs Δ to fun d => ∃ xs, d = .ins C fl xs ∧ Pf xs) (hm : ixOf mm fl = none) (ha : ∀ xs, Pf xs → EVA c cs Δ tr PA) (hk : EVL c cs Δ tk fs)
    (h : ∀ xs es, Pf xs → PA es → es.length + 1 = n ∧ ∃ x, Gives c.K gV (.ins C fl xs :: es) fs (S.arg x) ∧ S.ok c.W x ∧ XO c E (S.xp x) ∧ ∀ d, S.res x d → P d) (h2 : fs.length = m) : EVP c cs Δ (tGM C mm (rFn n m (S.sp c.K) gV E) to tr tk) P := fun σ G H s I R Q k =>
  ho σ G H s I R _ fun d v G1 H1 ⟨xs, e, pf⟩ s1 rd => by
    subst e
    obtain ⟨a, dx, ws, rfl, hg, hl, rs⟩ := rd
    refine ⟨a, dx, _, rfl, s1.i _ _ hg, ixOf_none hm, ?_⟩
    refine ha xs pf σ G1 H1 (s.mono s1.g) (s1.inn I) (R.on s1) _ fun es' vs G2 H2 pa s2 rv => ?_
    refine hk σ G2 H2 ((s.mono s1.g).mono s2.g) (s2.inn (s1.inn I)) ((R.on s1).on s2) _ fun fs' zs G3 H3 e3 s3 rz => ?_
    subst e3
    obtain ⟨h1, x, hgv, ok, hx, hq⟩ := h xs es' pf pa
    refine ⟨by rw [List.length_cons, rv.len, h1], by rw [rz.len, h2], ?_⟩
    have r1 : Reps c.K G3 (.ins C fl xs :: es') (.ref a :: vs) := ⟨_, vs, rfl, ⟨a, dx, ws, rfl, s3.g _ _ (s2.g _ _ hg), hl, (rs.mono s2.g).mono s3.g⟩, rv.mono s3.g⟩
    exact FS.run (s3.inn (s2.inn (s1.inn I))) (((R.on s1).on s2).on s3) (hgv G3 _ zs r1 rz) ok hx fun d v G4 H4 pd s4 => k d v G4 H4 (hq d pd) (((s1.trans s2).trans s3).trans s4)
theorem ev_fsM (x : α) {mm : Str} {fl : List Str} {xs : List Dat} (ho : EVD c cs Δ to (.ins C fl xs)) (ha : EVL c cs Δ tr es) (hk : EVL c cs Δ tk fs) (hg : Gives c.K gV (.ins C fl xs :: es) fs (S.arg x)) (ok : S.ok c.W x) (hx : XO c E (S.xp x))
    (hm : ixOf mm fl = none := by decide +kernel) (h1 : es.length + 1 = n := by rfl) (h2 : fs.length = m := by rfl) : EVP c cs Δ (tGM C mm (rFn n m (S.sp c.K) gV E) to tr tk) (S.res x) :=
  evp_fsM (Pf := fun y => y = xs) (PA := fun y => y = es) (ho.imp fun d e => ⟨xs, e, rfl⟩) hm (fun _ _ => ha) hk (fun _ _ e1 e2 => by subst e1 e2; exact ⟨h1, x, hg, ok, hx, fun _ h => h⟩) h2
theorem ev_fsP (x : α) {fl : List Str} {xs : List Dat} (ho : EVD c cs Δ to (.ins C fl xs)) (hg : S.arg x = [.ins C fl xs]) (ok : S.ok c.W x) (hx : XO c E (S.xp x)) : EVP c cs Δ (tPropG C (S.sp c.K) E to) (S.res x) := fun σ G H s I R Q k =>
  ho σ G H s I R _ fun d v G1 H1 e s1 rd => by
    subst e
    obtain ⟨a, dx, ws, rfl, hgt, hl, rs⟩ := rd
    refine ⟨a, dx, _, rfl, s1.i _ _ hgt, ?_⟩
    exact FS.run (s1.inn I) (R.on s1) (by rw [hg]; exact Reps.one ⟨a, dx, ws, rfl, hgt, hl, rs⟩) ok hx fun d v G3 H3 pd s3 => k d v G3 H3 pd (s1.trans s3)
theorem ev_fsC (x : α) (ho : EVD c cs Δ to (.obj (.ref C))) (ha : EVL c cs Δ tr es) (hk : EVL c cs Δ tk fs) (hg : Gives c.K gV (.obj (.ref C) :: es) fs (S.arg x)) (ok : S.ok c.W x) (hx : XO c E (S.xp x)) (h1 : es.length + 1 = n := by rfl) (h2 : fs.length = m := by rfl) :
    EVP c cs Δ (tGC C (rFn n m (S.sp c.K) gV E) to tr tk) (S.res x) := fun σ G H s I R Q k =>
  ho σ G H s I R _ fun d v G1 H1 e s1 rd => by
    subst e
    refine ⟨rd, ha σ G1 H1 (s.mono s1.g) (s1.inn I) (R.on s1) _ fun es' vs G2 H2 e2 s2 rv => ?_⟩
    refine hk σ G2 H2 ((s.mono s1.g).mono s2.g) (s2.inn (s1.inn I)) ((R.on s1).on s2) _ fun fs' zs G3 H3 e3 s3 rz => ?_
    subst e2 e3
    refine ⟨by rw [List.length_cons, rv.len, h1], by rw [rz.len, h2], ?_⟩
    have r1 : Reps c.K G3 (.obj (.ref C) :: es') (.ref C :: vs) := ⟨_, vs, rfl, rfl, rv.mono s3.g⟩
    exact FS.run (s3.inn (s2.inn (s1.inn I))) (((R.on s1).on s2).on s3) (hg G3 _ zs r1 rz) ok hx fun d v G4 H4 pd s4 => k d v G4 H4 pd (((s1.trans s2).trans s3).trans s4)
/-- C(e, .., k = v, ..) -/
theorem ev_is (x : α) (ha : EVL c cs Δ tr es) (hk : EVL c cs Δ tk fs) (hg : GivesI c.K gV es fs (SI.arg x)) (ok : SI.ok c.W x) (hx : XO c E (SI.xp x)) (h1 : es.length = n := by rfl) (h2 : fs.length = m := by rfl) :
    EVP c cs Δ (tG (rMk C n m (SI.sp C c.K) gV E) tr tk) (fun d => ∃ xs, d = .ins C SI.fs xs ∧ SI.res x xs) := fun σ G H s I R Q k =>
  ha σ G H s I R _ fun es' vs G1 H1 e1 s1 rs => hk σ G1 H1 (s.mono s1.g) (s1.inn I) (R.on s1) _ fun fs' zs G2 H2 e2 s2 rz => by
    subst e1 e2
    refine ⟨by rw [rs.len, h1], by rw [rz.len, h2], fun p dx hx0 hd0 ne => ?_⟩
    obtain ⟨ws, ew, rw_⟩ := hg G2 p vs zs (rs.mono s2.g) rz
    rw [ew]
    exact IS.run (s2.inn (s1.inn I)) ((R.on s1).on s2) rw_ ok hx hx0 hd0 ne fun d v G3 H3 pd s3 => k _ v G3 H3 pd ((s1.trans s2).trans s3)
/-! operators by methods -/
variable {fl gl : List Str} {xs ys : List Dat} {i : Int}
theorem d_ownC (x : α) (hg : S.arg x = [.ins C fl xs, .ins C gl ys]) (ok : S.ok c.W x) (hx : XO c E (S.xp x)) : ROP c cs (rOwnC C (rFn 2 0 (S.sp c.K) idv E)) (.ins C fl xs) (.ins C gl ys) (S.res x) := fun G H u v I R ra rb Q q => by
  obtain ⟨a, dx, ws, rfl, h1, h2, h3⟩ := ra
  obtain ⟨b, dy, us, rfl, h4, h5, h6⟩ := rb
  refine ⟨a, dx, _, b, dy, _, rfl, I.ex _ _ h1, rfl, I.ex _ _ h4, rfl, rfl, ?_⟩
  exact FS.run I R (by rw [hg]; exact ⟨_, _, rfl, ⟨a, dx, ws, rfl, h1, h2, h3⟩, Reps.one ⟨b, dy, us, rfl, h4, h5, h6⟩⟩) ok hx q
theorem d_ownI (x : α) (hg : S.arg x = [.ins C fl xs, .int i]) (ok : S.ok c.W x) (hx : XO c E (S.xp x)) : ROP c cs (rOwnI C (rFn 2 0 (S.sp c.K) idv E)) (.ins C fl xs) (.int i) (S.res x) := fun G H u v I R ra rb Q q => by
  obtain ⟨a, dx, ws, rfl, h1, h2, h3⟩ := ra
  refine ⟨a, dx, _, i, rfl, I.ex _ _ h1, rb, rfl, rfl, ?_⟩
  exact FS.run I R (by rw [hg]; exact ⟨_, _, rfl, ⟨a, dx, ws, rfl, h1, h2, h3⟩, Reps.one rb⟩) ok hx q
theorem d_ownR (x : α) (hg : S.arg x = [.ins C fl xs, .int i]) (ok : S.ok c.W x) (hx : XO c E (S.xp x)) : ROP c cs (rOwnR C (rFn 2 0 (S.sp c.K) idv E)) (.int i) (.ins C fl xs) (S.res x) := fun G H u v I R rb ra Q q => by
  obtain ⟨a, dx, ws, rfl, h1, h2, h3⟩ := ra
  refine ⟨a, dx, _, i, rfl, I.ex _ _ h1, rb, rfl, rfl, ?_⟩
  exact FS.run I R (by rw [hg]; exact ⟨_, _, rfl, ⟨a, dx, ws, rfl, h1, h2, h3⟩, Reps.one rb⟩) ok hx q
theorem d_own1 (x : α) (hg : S.arg x = [.ins C fl xs]) (ok : S.ok c.W x) (hx : XO c E (S.xp x)) : RUP c cs (rOwn1 C (rFn 1 0 (S.sp c.K) idv E)) (.ins C fl xs) (S.res x) := fun G H u I R ra Q q => by
  obtain ⟨a, dx, ws, rfl, h1, h2, h3⟩ := ra
  refine ⟨a, dx, _, rfl, I.ex _ _ h1, rfl, rfl, ?_⟩
  exact FS.run I R (by rw [hg]; exact Reps.one ⟨a, dx, ws, rfl, h1, h2, h3⟩) ok hx q
theorem d_ownNe {k : Bool} (x : α) (hg : S.arg x = [.ins C fl xs, .ins C gl ys]) (ok : S.ok c.W x) (hx : XO c E (S.xp x)) (hk : ∀ d, S.res x d → d = .bl k) : ROD c cs (rOwnNe C (rFn 2 0 (S.sp c.K) idv E)) (.ins C fl xs) (.ins C gl ys) (.bl (!k)) := fun G H u v I R ra rb Q q => by
  obtain ⟨a, dx, ws, rfl, h1, h2, h3⟩ := ra
  obtain ⟨b, dy, us, rfl, h4, h5, h6⟩ := rb
  refine ⟨a, dx, _, b, dy, _, rfl, I.ex _ _ h1, rfl, I.ex _ _ h4, rfl, rfl, ?_⟩
  exact FS.run I R (by rw [hg]; exact ⟨_, _, rfl, ⟨a, dx, ws, rfl, h1, h2, h3⟩, Reps.one ⟨b, dy, us, rfl, h4, h5, h6⟩⟩) ok hx fun d v G2 H2 hd s2 rd => by
    rw [hk d hd] at rd
    exact ⟨k, rd, q _ _ G2 H2 rfl s2 rfl⟩
theorem d_ownS {z : Str} (x : α) (hg : S.arg x = [.ins C fl xs]) (ok : S.ok c.W x) (hx : XO c E (S.xp x)) (hk : ∀ d, S.res x d → d = .str z) : RCD c cs (rOwnS C (rFn 1 0 (S.sp c.K) idv E)) [.ins C fl xs] (.str z) := fun G H vs I R rs Q q => by
  obtain ⟨v, rfl, a, dx, ws, rfl, h1, h2, h3⟩ := rs.only
  refine ⟨a, dx, _, rfl, I.ex _ _ h1, rfl, rfl, ?_⟩
  exact FS.run I R (by rw [hg]; exact Reps.one ⟨a, dx, ws, rfl, h1, h2, h3⟩) ok hx fun d v G2 H2 hd s2 rd => by
    rw [hk d hd] at rd
    exact ⟨z, rd, q _ _ G2 H2 rfl s2 rfl⟩
theorem RCP.inl {r r' : List V → Hp → VK → Prop} {as : List Dat} (h : RCP c cs r as P) : RCP c cs (fun xs H Q => r xs H Q ∨ r' xs H Q) as P := fun G H xs I R rs Q q => .inl (h G H xs I R rs Q q)
theorem RCP.inr {r r' : List V → Hp → VK → Prop} {as : List Dat} (h : RCP c cs r' as P) : RCP c cs (fun xs H Q => r xs H Q ∨ r' xs H Q) as P := fun G H xs I R rs Q q => .inr (h G H xs I R rs Q q)
theorem RUP.inl {r r' : V → Hp → VK → Prop} {a : Dat} (h : RUP c cs r a P) : RUP c cs (fun x H Q => r x H Q ∨ r' x H Q) a P := fun G H x I R rs Q q => .inl (h G H x I R rs Q q)
theorem RUP.inr {r r' : V → Hp → VK → Prop} {a : Dat} (h : RUP c cs r' a P) : RUP c cs (fun x H Q => r x H Q ∨ r' x H Q) a P := fun G H x I R rs Q q => .inr (h G H x I R rs Q q)
end
/-! ### what a law's text gives of a def -/
structure CxG (P : Program) (w : World) (K : PySem.W.Frag) (mg : Str → Option Value) (base : Heap) (CX : CXT) (f : Addr) (k n : Nat) (ks : List Str) (sp : Sp) (gV : List V → List V → List V) : Prop where
  ex : ∃ fd ps g, FnG P w K mg base CX k f fd ps sp ∧ KBn K fd ps n ks g gV
section
variable {X : Cx} {CX : CXT} {f C p : Addr} {k n : Nat} {ks : List Str} {sp : Sp} {gV : List V → List V → List V} {E : XK} {x m : Str} {e o : Expr} {es : List Expr} {pos apos : Pos} {t : TA} {to : TE}
theorem can_cx (h : CxG X.prog X.w X.K X.mg X.base CX f k n ks sp gV) (hr : RoomG k X.A) (hx : Passes CX X E) : CanG X (.ref f) ks (rFn n ks.length sp gV E) := by
  obtain ⟨fd, ps, g, F, hb⟩ := h.ex
  exact can_fn F hr hb hx
theorem can_mk (M : Mk X.K C f) (h : CxG X.prog X.w X.K X.mg X.base CX f k (n + 1) ks sp gV) (hr : RoomG (k + 1) X.A) (hx : Passes CX X E) : CanG X (.ref C) ks (rMk C n ks.length sp gV E) := by
  obtain ⟨fd, ps, g, F, hb⟩ := h.ex
  exact can_make M F hr hb hx
theorem UnR.or {ff : Value → Sem Value} {r r' : V → Hp → VK → Prop} (h : UnR X ff r) (h' : UnR X ff r') : UnR X ff (fun x H Q => r x H Q ∨ r' x H Q) := by
  intro pins s σ H x v Q I rx q
  rcases q with q | q
  · exact h pins s σ H x v Q I rx q
  · exact h' pins s σ H x v Q I rx q
theorem CallR.or' {ff : Value} {r r' : List V → Hp → VK → Prop} (h : CallR X ff r) (h' : CallR X ff r') : CallR X ff (fun x H Q => r x H Q ∨ r' x H Q) := by
  intro pins s σ H x v Q I rx q
  rcases q with q | q
  · exact h pins s σ H x v Q I rx q
  · exact h' pins s σ H x v Q I rx q
end
end DV

set_option autoImplicit false
set_option linter.all false
set_option maxRecDepth 100000
set_option maxHeartbeats 2000000
/-! A law's end over FnG, and the head's hook with more facts of one's own. -/
namespace DV
open PySem PySem.Spec PyProof.Rows L2
/-! ### the hook -/
def obsV (n : Nat) (fa : List He.Fa) (fn : List He5.DefA) (ex : PySem.W.Frag → Bool) (g : Addr → Option Obj) : He.AlD × Bool := (He5.obsAG n fa fn g, ex (He.frG g (He5.asA g n)))
def hookV (n : Nat) (fa : List He.Fa) (fn : List He5.DefA) (ex : PySem.W.Frag → Bool) : PySem.W.Hook where
  α := He.AlD × Bool
  obs := fun s => obsV n fa fn ex s.heap.get?
  val := fun _ => (He5.valA fn, true)
  says := fun _ h => ∃ K : PySem.W.Frag, K.In h ∧ He5.SaysA fa fn K ∧ ex K = true
  of := fun _ s e => ⟨_, He.frG_in, congrArg (fun z : He.AlD × Bool => z.1) e, congrArg (fun z : He.AlD × Bool => z.2) e⟩
  keeps := fun _ _ _ ⟨K, hK, c⟩ k => ⟨K, PySem.W.Frag.In.keeps hK k, c⟩
theorem obsV_eq {n : Nat} {fa : List He.Fa} {fn : List He5.DefA} {ex : PySem.W.Frag → Bool} {g : Addr → Option Obj} {s : Shared} (h : ∀ a, g a = s.heap.get? a) : obsV n fa fn ex g = (hookV n fa fn ex).obs s := by
  have e : g = s.heap.get? := funext h
  subst e
  rfl
/-! ### the end -/
/-- what is wanted behind a law's call -/
abbrev Fine (s₁ : Shared) : Result → Shared → Prop := fun r s' => r = .ok (.ret (.bool true)) ∧ OldK s₁.heap s'.heap ∧ s'.os = s₁.os ∧ AllBare s'.gens
section
variable {P : Program} {w : World} {K : PySem.W.Frag} {mg mb : Str → Option Value} {k : Nat} {fa a : Addr} {fd : FuncData} {x : Str} {sp : Sp} {s₁ : Shared} {vs : List Value} {ns : List Int}
/-- the heap behind the hiding: what isn't tracked stands there -/
theorem lawG_from (hfa : K.In s₁.heap) (glo : s₁.heap.Ns mainGlobals mg) (blt : s₁.heap.Ns builtinsNs mb) (bb : ∀ y : Str, y ≠ "__name__" → mb y = bootBuiltins y) (lim : s₁.heap.NoLimit) (ge : s₁.gens = #[])
    (at_ : s₁.heap.get? a = some { cls := .type "list", data := .seq vs.toArray }) (room : RoomG k callerA) (go : ∀ base : Heap, K.In base → base.Ns mainGlobals mg → FnG P w K mg base CX0 k fa fd [x] sp)
    (bind : ∀ (s : Shared) (u : Value), BindsTo s fd ⟨[u], []⟩ [(x, u)]) (H : Hp) (only : Only H) (ok : HOk P w H s₁.heap) (one : ∀ b, H b ≠ none → b = a) (off : H a ≠ none → K.lookup a = none)
    (prom : sp [.ref a] H (fun v _ => v = .bl true) E0) : codeAny (model P w) callerA (.call (.ref fa) ⟨[.ref a], []⟩) (Fine s₁) s₁ := by
  have keepN : ∀ {b : Addr} {m : Str → Option Value}, s₁.heap.Ns b m → (hidT s₁.heap H).Ns b m := by
    rintro b m ⟨o, es, ep, e, d, r⟩
    refine ⟨o, es, ep, hidT_get e ?_, d, r⟩
    cases q : H b with
    | none => rfl
    | some u =>
      have z := one b (by rw [q]; exact nofun)
      rw [z, at_] at e
      rw [← Option.some.inj e] at d
      exact nomatch (show Data.seq vs.toArray _ = Data.dict es ep from d)
  have inB : K.In (hidT s₁.heap H) := by
    intro b o e
    refine hidT_get (hfa b o e) ?_
    cases q : H b with
    | none => rfl
    | some u =>
      have ne : H b ≠ none := by rw [q]; exact nofun
      have z := one b ne
      rw [z] at e ne
      rw [off ne] at e
      exact nomatch e
  obtain ⟨mc, l1, l2⟩ := lim
  have env : Env0 P w K mg (hidT s₁.heap H) callerA [] s₁ H :=
    { frames := rfl, mod := ⟨inB, keepN glo, ⟨mb, keepN blt, bb⟩, mc, keepN l1, l2⟩, bs := fun b o e => of_hidT e, bsz := Nat.le_of_eq (hidT_size _ _), funs := trivial, frf := fun b hb => (List.not_mem_nil (show b ∈ ([] : List Addr) from hb)).elim, hok := ok, bare := .of_eq ge }
  have run := (go _ inB (keepN glo)).go callerA [] s₁ H ⟨[.ref a], []⟩ [.ref a] [.ref a] _ E0 room env (bind s₁ (.ref a)) (.cons rfl .nil) prom
  refine codeAny_mono run ?_
  intro r s' h
  match r, h with
  | .error e, h => exact h.elim
  | .ok .next, h => exact h.elim
  | .ok .brk, h => exact h.elim
  | .ok .cont, h => exact h.elim
  | .ok (.ret u), ⟨v, H', os, bare, un, ok', rv, tr⟩ =>
    rw [show v = .bl true from tr] at rv
    refine ⟨by rw [show u = Value.bool true from rv], .of_keep ?_, os, bare⟩
    intro b o e
    rcases only b with z | ⟨ob, xs, z⟩
    · exact un.keep b o e z (fun y => (List.not_mem_nil (show b ∈ ([] : List Addr) from y)).elim) List.not_mem_nil
    · have f1 := (ok b _ z).1
      have f2 := (ok' b _ (un.frzs b ob _ z)).1
      rw [f1] at e
      rw [f2, ← e]
theorem lawG (hfa : K.In s₁.heap) (glo : s₁.heap.Ns mainGlobals mg) (blt : s₁.heap.Ns builtinsNs mb) (bb : ∀ y : Str, y ≠ "__name__" → mb y = bootBuiltins y) (lim : s₁.heap.NoLimit) (ge : s₁.gens = #[])
    (at_ : s₁.heap.get? a = some { cls := .type "list", data := .seq vs.toArray }) (itg : IntsAre vs ns) (len : ns.length ≤ sizeLine) (room : RoomG k callerA) (go : ∀ base : Heap, K.In base → base.Ns mainGlobals mg → FnG P w K mg base CX0 k fa fd [x] sp)
    (bind : ∀ (s : Shared) (u : Value), BindsTo s fd ⟨[u], []⟩ [(x, u)]) (prom : ∀ H : Hp, Only H → SqL K H a (ns.map V.int) → sp [.ref a] H (fun v _ => v = .bl true) E0) :
    codeAny (model P w) callerA (.call (.ref fa) ⟨[.ref a], []⟩) (Fine s₁) s₁ := by
  have rel := vals_ints itg
  have same := itg.length
  by_cases own : K.lookup a = none
  · -- it is tracked as it stands
    let ob : Obj := { cls := .type "list", data := .seq vs.toArray }
    let Hs : Hp := fun b => if b = a then some (.frz ob (.lst (ns.map V.int))) else none
    have here : Hs a = some (.frz ob (.lst (ns.map V.int))) := if_pos rfl
    have away : ∀ {b}, b ≠ a → Hs b = none := fun n => if_neg n
    have onl : Only Hs := fun b => (Decidable.em (b = a)).elim (fun e => .inr ⟨ob, ns.map V.int, by rw [e]; exact here⟩) fun n => .inl (away n)
    refine lawG_from hfa glo blt bb lim ge at_ room go bind Hs onl (fun b u z => ?_) (fun b z => Decidable.byContradiction fun n => z (away n)) (fun _ => own) (prom Hs onl (.inl (.inr ⟨_, here⟩)))
    by_cases e : b = a
    · rw [e, here] at z
      cases z
      rw [e]
      exact ⟨at_, by rw [List.length_map]; exact len, vs, _, rel, at_⟩
    · rw [away e] at z
      cases z
  · -- it is one of the text's own objects
    obtain ⟨o, hk⟩ := Option.ne_none_iff_exists'.mp own
    have e := (hfa a o hk).symm.trans at_
    cases e
    have onl : Only (fun _ => none) := fun b => .inl rfl
    exact lawG_from hfa glo blt bb lim ge at_ room go bind (fun _ => none) onl (fun b u z => nomatch z) (fun b z => absurd rfl z) (fun z => absurd rfl z) (prom _ onl (.inr ⟨_, vs.toArray, _, hk, rfl, rfl, rfl, by rw [List.size_toArray, same]; exact len, by simpa using rel⟩))
end
theorem walkG {l : PySem.W.OpenLaw} {n k : Nat} {q : Program} {loose : List Str} {XP : (Str → Option Value) → Heap → Prop} {YP : World → Heap → Prop} {d : DefRec} {x : Str} (most : l.most = some n) (fits : n ≤ sizeLine) (nodef : d.params.defaults = []) (room : RoomG k callerA)
    (F : ∀ (w : World) (mg : Str → Option Value) (fa : Addr) (h : Heap), YP w h → h.Ns mainGlobals mg → mg d.name = some (.ref fa) → ∃ (K : PySem.W.Frag) (fd : FuncData) (sp : Sp), K.In h ∧ (∀ (s : Shared) (u : Value), BindsTo s fd ⟨[u], []⟩ [(x, u)]) ∧
      (∀ (H : Hp) (a : Addr) (ns : List Int), ns.length ≤ n → Only H → SqL K H a (ns.map V.int) → sp [.ref a] H (fun v _ => v = .bl true) E0) ∧ ∀ base : Heap, K.In base → base.Ns mainGlobals mg → FnG l.prog w K mg base CX0 k fa fd [x] sp) :
    PySem.W.WalkO q loose XP YP l.row.toRowW d [] (fun f vs => PySem.call f vs) := by
  refine Att.attach_call most nodef ?_
  intro w s₀ s₁ mg mb fa o pm cd doc a vs ns G Y ho hd hcd hmg hobj hints hlen hg
  obtain ⟨K, fd, sp, KX, hb, hsp, hF⟩ := F w mg fa _ Y G.T.g hmg
  exact lawG KX G.T.g G.T.b G.T.builtins G.T.nolimit hg hobj hints (Nat.le_trans hlen fits) room hF hb fun H onl hS => hsp H a ns hlen onl hS
end DV

set_option autoImplicit false
set_option linter.all false
namespace DV
/-- a ratio's parts are below 2 ^ k -/
def Bd (k : Nat) (q : Rat) : Prop := q.num.natAbs < 2 ^ k ∧ q.den < 2 ^ k
theorem bd_le {j k : Nat} {q : Rat} (h : Bd j q) (l : j ≤ k) : Bd k q := ⟨Nat.lt_of_lt_of_le h.1 (Nat.pow_le_pow_right (by decide) l), Nat.lt_of_lt_of_le h.2 (Nat.pow_le_pow_right (by decide) l)⟩
theorem num_le (a b : Int) : (Rat.divInt a b).num.natAbs ≤ a.natAbs := by
  rw [Rat.num_divInt]
  refine Nat.le_trans (Int.natAbs_ediv_le_natAbs _ _) ?_
  rw [Int.natAbs_mul]
  have : b.sign.natAbs ≤ 1 := by
    rcases Int.lt_trichotomy b 0 with h | h | h
    · rw [Int.sign_eq_neg_one_of_neg h]; decide
    · subst h; decide
    · rw [Int.sign_eq_one_of_pos h]; decide
  calc b.sign.natAbs * a.natAbs ≤ 1 * a.natAbs := Nat.mul_le_mul_right _ this
    _ = a.natAbs := Nat.one_mul _
theorem den_le {a b : Int} (h : b ≠ 0) : (Rat.divInt a b).den ≤ b.natAbs := by
  rw [Rat.den_divInt, if_neg h]
  exact Nat.div_le_self _ _
theorem bd_fr {k : Nat} {a b : Int} (h : b ≠ 0) (h1 : a.natAbs < 2 ^ k) (h2 : b.natAbs < 2 ^ k) : Bd k (Rat.divInt a b) := ⟨Nat.lt_of_le_of_lt (num_le a b) h1, Nat.lt_of_le_of_lt (den_le h) h2⟩
theorem den_ne (q : Rat) : (q.den : Int) ≠ 0 := by have := q.den_pos; omega
theorem add_fr (q r : Rat) : q + r = Rat.divInt (q.num * r.den + r.num * q.den) (q.den * r.den) := by
  have := Rat.divInt_add_divInt q.num r.num (den_ne q) (den_ne r)
  rw [Rat.num_divInt_den, Rat.num_divInt_den] at this
  exact this
theorem sub_fr (q r : Rat) : q - r = Rat.divInt (q.num * r.den - r.num * q.den) (q.den * r.den) := by
  have := Rat.divInt_sub_divInt q.num r.num (den_ne q) (den_ne r)
  rw [Rat.num_divInt_den, Rat.num_divInt_den] at this
  exact this
theorem mul_fr (q r : Rat) : q * r = Rat.divInt (q.num * r.num) (q.den * r.den) := by
  have := Rat.divInt_mul_divInt q.num r.num (d₁ := q.den) (d₂ := r.den)
  rw [Rat.num_divInt_den, Rat.num_divInt_den] at this
  exact this
theorem div_fr (q r : Rat) : q / r = Rat.divInt (q.num * r.den) (q.den * r.num) := by
  rw [Rat.div_def, Rat.inv_def]
  have := Rat.divInt_mul_divInt q.num r.den (d₁ := q.den) (d₂ := r.num)
  rw [Rat.num_divInt_den] at this
  exact this
theorem mul_ne {a b : Int} (h : a ≠ 0) (h' : b ≠ 0) : a * b ≠ 0 := fun e => by
  rcases Int.mul_eq_zero.mp e with z | z
  · exact h z
  · exact h' z
theorem mul_lt {x y : Nat} {a b : Nat} (h : x < 2 ^ a) (h' : y < 2 ^ b) : x * y < 2 ^ (a + b) := by
  rw [Nat.pow_add]
  exact Nat.mul_lt_mul'' h h'
theorem mul_ltI {x y : Int} {a b : Nat} (h : x.natAbs < 2 ^ a) (h' : y.natAbs < 2 ^ b) : (x * y).natAbs < 2 ^ (a + b) := by
  rw [Int.natAbs_mul]
  exact mul_lt h h'
theorem add_ltI {x y : Int} {a : Nat} (h : x.natAbs < 2 ^ a) (h' : y.natAbs < 2 ^ a) : (x + y).natAbs < 2 ^ (a + 1) := by
  rw [Nat.pow_succ]
  have := Int.natAbs_add_le x y
  omega
theorem sub_ltI {x y : Int} {a : Nat} (h : x.natAbs < 2 ^ a) (h' : y.natAbs < 2 ^ a) : (x - y).natAbs < 2 ^ (a + 1) := by
  have := add_ltI (x := x) (y := -y) h (by rw [Int.natAbs_neg]; exact h')
  rwa [← Int.sub_eq_add_neg] at this
theorem bd_add {a b : Nat} {q r : Rat} (h : Bd a q) (h' : Bd b r) : Bd (a + b + 1) (q + r) := by
  rw [add_fr]
  refine bd_fr (mul_ne (den_ne q) (den_ne r)) ?_ ?_
  · exact add_ltI (mul_ltI h.1 (by simpa using h'.2)) (by rw [Nat.add_comm]; exact mul_ltI h'.1 (by simpa using h.2))
  · refine Nat.lt_trans (mul_ltI (x := q.den) (y := r.den) (a := a) (b := b) (by simpa using h.2) (by simpa using h'.2)) ?_
    exact Nat.pow_lt_pow_right (by decide) (by omega)
theorem bd_neg {a : Nat} {q : Rat} (h : Bd a q) : Bd a (-q) := ⟨by rw [Rat.neg_num, Int.natAbs_neg]; exact h.1, by rw [Rat.neg_den]; exact h.2⟩
theorem bd_sub {a b : Nat} {q r : Rat} (h : Bd a q) (h' : Bd b r) : Bd (a + b + 1) (q - r) := by
  rw [Rat.sub_eq_add_neg]
  exact bd_add h (bd_neg h')
theorem bd_mul {a b : Nat} {q r : Rat} (h : Bd a q) (h' : Bd b r) : Bd (a + b) (q * r) := by
  rw [mul_fr]
  refine bd_fr (mul_ne (den_ne q) (den_ne r)) (mul_ltI h.1 h'.1) (mul_ltI (by simpa using h.2) (by simpa using h'.2))
theorem bd_int {a : Nat} {n : Int} (h : n.natAbs < 2 ^ a) (h0 : 0 < a) : Bd a (n : Rat) := ⟨by rw [Rat.num_intCast]; exact h, by rw [Rat.den_intCast]; exact Nat.one_lt_two_pow (by omega)⟩
theorem fr_one (n : Int) : Rat.divInt n 1 = (n : Rat) := by
  refine Rat.ext ?_ ?_
  · rw [Rat.num_divInt, Rat.num_intCast]; simp
  · rw [Rat.den_divInt, Rat.den_intCast]; simp
/-- what the text's own making of lowest terms gives -/
theorem low_num {a b : Int} (h : b ≠ 0) : a.fdiv (if b < 0 then 0 - (a.gcd b : Int) else (a.gcd b : Int)) = (Rat.divInt a b).num ∧ b.fdiv (if b < 0 then 0 - (a.gcd b : Int) else (a.gcd b : Int)) = ((Rat.divInt a b).den : Int) := by
  have hg : (a.gcd b : Int) ∣ a := Int.gcd_dvd_left a b
  have hg2 : (a.gcd b : Int) ∣ b := Int.gcd_dvd_right a b
  have g0 : (a.gcd b) ≠ 0 := by
    intro e
    rw [Int.gcd_eq_zero_iff] at e
    exact h e.2
  rw [Rat.num_divInt, Rat.den_divInt, if_neg h, Int.gcd_comm b a]
  by_cases hb : b < 0
  · rw [if_pos hb, Int.sign_eq_neg_one_of_neg hb, Int.zero_sub, Int.fdiv_eq_ediv_of_dvd (Int.neg_dvd.mpr hg), Int.fdiv_eq_ediv_of_dvd (Int.neg_dvd.mpr hg2), Int.ediv_neg, Int.ediv_neg]
    refine ⟨?_, ?_⟩
    · rw [Int.neg_one_mul, Int.neg_ediv_of_dvd hg]
    · rw [← Int.neg_ediv_of_dvd hg2, Int.natCast_ediv]
      congr 1
      omega
  · have hb' : 0 < b := by omega
    rw [if_neg hb, Int.sign_eq_one_of_pos hb', Int.one_mul, Int.fdiv_eq_ediv_of_dvd hg, Int.fdiv_eq_ediv_of_dvd hg2]
    refine ⟨rfl, ?_⟩
    rw [Int.natCast_ediv]
    congr 1
    omega
theorem low_pos {a b : Int} (h : 0 < b) : a.fdiv (a.gcd b : Int) = (Rat.divInt a b).num ∧ b.fdiv (a.gcd b : Int) = ((Rat.divInt a b).den : Int) := by
  have := low_num (a := a) (b := b) (by omega)
  rwa [if_neg (by omega)] at this
theorem low_neg {a b : Int} (h : b < 0) : (-a).fdiv (a.gcd b : Int) = (Rat.divInt a b).num ∧ (-b).fdiv (a.gcd b : Int) = ((Rat.divInt a b).den : Int) := by
  have := low_pos (a := -a) (b := -b) (by omega)
  rw [Int.gcd_neg, Int.neg_gcd] at this
  rw [this.1, this.2]
  have e : Rat.divInt (-a) (-b) = Rat.divInt a b := by
    rw [Rat.divInt_eq_divInt_iff (by omega) (by omega)]
    rw [Int.neg_mul, Int.mul_neg]
  rw [e]
  exact ⟨rfl, rfl⟩
end DV

set_option autoImplicit false
set_option linter.all false
set_option maxRecDepth 100000
set_option maxHeartbeats 2000000
/-! Rules as tactics take them: every side condition an argument of its own. -/
namespace DV
open PySem PySem.Spec PyProof.Rows L2
section
variable {c : Ct} {cs : Cells} {Δ Δ1 : Sts} {te ta tb : TE} {tr tk : TA} {tt uu : TT} {P : Dat → Prop} {ds es fs : List Dat} {p q : Bool} {t u : TS} {po : Po} {d a b : Dat} {i j l : Nat} {g : TG} {is : List Nat}
theorem a_var (h : Δ[i]? = some (some d)) : EVD c cs Δ (tVar i) d := ev_var h
theorem a_tup (h : EVL c cs Δ tr ds) (hl : ds.length ≤ 100000) : EVD c cs Δ (tTup tr) (.tup ds) := ev_tup h hl
theorem a_lst (h : EVL c cs Δ tr ds) (hl : ds.length ≤ 100000) : EVD c cs Δ (tLst tr) (.lst ds) := ev_lst h hl
theorem a_tr (h : EVD c cs Δ te (.bl true)) (e : p = true) : EVD c cs Δ te (.bl p) := by subst e; exact h
theorem a_and (h1 : EVD c cs Δ ta (.bl p)) (h2 : p = true → EVD c cs Δ tb (.bl q)) : EVD c cs Δ (tAndV ta tb) (.bl (p && q)) := ev_andV h1 h2
theorem a_or (h1 : EVD c cs Δ ta (.bl p)) (h2 : p = false → EVD c cs Δ tb (.bl q)) : EVD c cs Δ (tOrV ta tb) (.bl (p || q)) := ev_orV h1 h2
theorem a_ifT (h : EVT c cs Δ tt p) (e : p = true) (h1 : EVP c cs Δ ta P) : EVP c cs Δ (tIf tt ta tb) P := ev_if h (fun _ => h1) fun z => by rw [e] at z; cases z
theorem a_ifF (h : EVT c cs Δ tt p) (e : p = false) (h1 : EVP c cs Δ tb P) : EVP c cs Δ (tIf tt ta tb) P := ev_if h (fun z => by rw [e] at z; cases z) fun _ => h1
theorem a_if (h : EVT c cs Δ tt p) (h1 : p = true → EVP c cs Δ ta P) (h2 : p = false → EVP c cs Δ tb P) : EVP c cs Δ (tIf tt ta tb) P := ev_if h h1 h2
theorem a_ifD (h : EVT c cs Δ tt p) (h1 : p = true → EVD c cs Δ ta a) (h2 : p = false → EVD c cs Δ tb b) : EVD c cs Δ (tIf tt ta tb) (if p then a else b) := ev_if h (fun e => by rw [if_pos e]; exact h1 e) fun e => by rw [if_neg (by rw [e]; decide)]; exact h2 e
/-! statements -/
theorem at_ {Δ' : Sts} (Δ : Sts) (e : Δ' = Δ) (h : STS c cs Δ t po) : STS c cs Δ' t po := by subst e; exact h
theorem b_no {tu : TS} (h : EVT c cs Δ tt p) (e : p = false) (k : STS c cs Δ u po) : STS c cs Δ (tSeq (tIfS tt tu tNext) u) po := q_whenNo (h.to e) k
theorem b_when {tu : TS} (h : EVT c cs Δ tt p) (h1 : p = true → STS c cs Δ tu { po with nx := fun _ _ => False }) (k : p = false → STS c cs Δ u po) : STS c cs Δ (tSeq (tIfS tt tu tNext) u) po := q_when h (fun e => h1 e.symm) fun e => k e.symm
theorem b_if {tu tw : TS} (h : EVT c cs Δ tt p) (h1 : p = true → STS c cs Δ tu po) (h2 : p = false → STS c cs Δ tw po) : STS c cs Δ (tIfS tt tu tw) po := s_if h (fun e => h1 e.symm) fun e => h2 e.symm
/-- an if without else whose body sets names: what is known behind -/
theorem b_ifq {tu tw : TS} {M : NxT} (h : EVT c cs Δ tt p) (h1 : p = true → STS c cs Δ tu { po with nx := M }) (h2 : p = false → STS c cs Δ tw { po with nx := M }) (k : ∀ cs' Δ', M cs' Δ' → STS c cs' Δ' u po) : STS c cs Δ (tSeq (tIfS tt tu tw) u) po := q_if h (fun e => h1 e.symm) (fun e => h2 e.symm) k
theorem b_asg (h : EVD c cs Δ te d) (k : STS c cs (Δ.set i (some d)) u po) : STS c cs Δ (tSeq (tAsg te (gName i)) u) po := q_asg h k
theorem b_ret (h : EVP c cs Δ te P) (k : ∀ d, P d → po.ret d) : STS c cs Δ (tRet te) po := s_ret h k
theorem b_retD (h : EVD c cs Δ te d) (k : po.ret d) : STS c cs Δ (tRet te) po := s_retD h k
theorem b_par (h : EVL c cs Δ tr [a, b]) (k : STS c cs ((Δ.set i (some a)).set j (some b)) u po) : STS c cs Δ (tSeq (tPar i j tr) u) po := q_par h k
theorem b_par3 {e : Dat} (h : EVL c cs Δ tr [a, b, e]) (k : STS c cs (((Δ.set i (some a)).set j (some b)).set l (some e)) u po) : STS c cs Δ (tSeq (tPar3 i j l tr) u) po := fun F G0 H0 σ G H D cu s R k2 =>
  h σ G H s cu.inn (R.on cu.st) _ fun ds vs G2 H2 pd s2 rd => by
    subst pd
    obtain ⟨x, r, rfl, r1, rd2⟩ := rd
    obtain ⟨y, z, rfl, r2, r3⟩ := Reps.two rd2
    exact ⟨x, y, z, rfl, k F G0 H0 _ G2 H2 D (cu.on s2) ((((s.mono s2.g).set r1).set r2).set r3) R k2⟩
/-- a, b = a tuple of two -/
theorem b_two (h : EVD c cs Δ te (.tup [a, b])) (k : STS c cs ((Δ.set i (some a)).set j (some b)) u po) : STS c cs Δ (tSeq (tAsg te (gTup c.K 2 (gCons (gName i) (gCons (gName j) gNil)))) u) po := q_asgT h g_two k
end
section
variable {K : PySem.W.Frag} {x qual : PySem.Str} {params : Arguments} {body : List Stmt} {scope : Scope} {dvs : List V} {kws : List (PySem.Str × V)} {f : Addr} {fd : FuncData} {ps : List PySem.Str}
/-- a def with defaults, none of them keyword-only -/
theorem kb_dfl (F : FunD K x qual params body scope dvs kws f fd) (n : Nat) (ks : List PySem.Str) (g : {α : Type} → List α → List α → List α → List α) (hd : dvs ≠ [])
    (hrel : ∀ {vs ds zs : List V} {us its ws : List Value}, Vals vs us → Vals ds its → Vals zs ws → Vals (g vs ds zs) (g us its ws))
    (h : ∀ (T : Addr) (kV doc pm : Value) (an : Option Addr) (cdv ct : Value) (us its ws : List Value), us.length = n → its.length = dvs.length → ws.length = ks.length →
      ∃ k, bindArgs (PySem.W.fnOf x qual params body scope (.ref T) kV doc pm an cdv ct) ⟨us, ks.zip ws⟩ = seqItems? (.ref T) >>= k ∧ k (some its.toArray) = pure (ps.zip (g us its ws))) :
    ∃ its : List Value, KBn K fd ps n ks (fun us ws => g us its ws) (fun vs zs => g vs dvs zs) := by
  obtain ⟨oc, od, dV, kV, doc, pm, an, cdv, ct, osl, rfl, lk, hcd, hD, hK⟩ := F.ex
  rcases hD with ⟨e, _⟩ | ⟨_, T, o, its, m, rfl, lT, oT, rT⟩
  · exact absurd e hd
  · refine ⟨its, fun s us ws X l1 l2 => ?_, fun r1 r2 => hrel r1 rT r2⟩
    obtain ⟨k, e1, e2⟩ := h T kV doc pm an cdv ct us its ws l1 rT.length.symm l2
    refine BindsTo.of_looks fun M => ?_
    rw [e1]
    exact looks_items X lT oT (.of_pure e2)
end
theorem Vals.rev {vs : List V} {us : List Value} (h : Vals vs us) : Vals vs.reverse us.reverse := by
  induction h with
  | nil => exact .nil
  | cons r _ ih =>
    rw [List.reverse_cons, List.reverse_cons]
    exact ih.append (.cons r .nil)
/-! walks over a list or a tuple -/
def iAny (K : PySem.W.Frag) (tl : TE) : TI := fun σ H R => iList K tl σ H R ∨ iTup K tl σ H R
theorem pi_any {X : Cx} {tg l : Expr} {tl : TE} (h : PE X l tl) : PI X tg l (iAny X.K tl) := by
  refine ⟨fun pins s σ H R I q => ?_⟩
  rcases q with q | q
  · exact (pi_list h).run pins s σ H R I q
  · exact (pi_tup h).run pins s σ H R I q
section
variable {c : Ct} {cs : Cells} {Δ : Sts} {te tl : TE} {ds : List Dat} {vs : List Nat} {wi : TI} {i : Nat}
theorem f_anyL (h : EVD c cs Δ tl (.lst ds)) : EVF c cs Δ (iAny c.K tl) fun x => x = ds := fun σ G H s I R Q k => .inl (f_listD h σ G H s I R Q k)
theorem f_anyT (h : EVD c cs Δ tl (.tup ds)) : EVF c cs Δ (iAny c.K tl) fun x => x = ds := fun σ G H s I R Q k => .inr (f_tupD h σ G H s I R Q k)
theorem et_yes : EVT c cs Δ tYes true := fun σ G H s I R Q k => k true G H rfl (Step.refl I)
/-- [e for x in xs], the items and the elements told by the same list -/
theorem en_map {α : Type} (xs : List α) (g f : α → Dat) (hw : EVF c cs Δ wi fun x => x = xs.map g) (hl : xs.length ≤ 50000) (hi : i ∈ vs) (hf : ∀ x ∈ xs, ∀ y ∈ xs, g x = g y → f x = f y)
    (he : ∀ x ∈ xs, EVD c cs ((wipeD Δ vs).set i (some (g x))) te (f x)) : EVN c cs Δ (tLc wi (gName i) tYes te vs) fun es => es = xs.map f := by
  refine (en_lc (PL := fun x => x = xs.map g) (Δf := fun d => (wipeD Δ vs).set i (some d)) (is := [i]) (Pt := fun _ b => b = true) (Pe := fun d e => ∃ x ∈ xs, d = g x ∧ e = f x) hw ?_ (fun ds d _ _ => g_name) ?_ (fun ds d _ _ => et_yes) ?_).imp ?_
  · rintro ds rfl
    rw [List.length_map]
    exact hl
  · intro j hj
    rw [List.mem_singleton] at hj
    rw [hj]
    exact hi
  · intro ds d e hd _
    subst e
    obtain ⟨x, hx, rfl⟩ := List.mem_map.mp hd
    exact (he x hx).imp fun e h => ⟨x, hx, rfl, h⟩
  · rintro es ⟨ds, rfl, h⟩
    have key : ∀ {ds es : List Dat}, CompR (fun _ b => b = true) (fun d e => ∃ x ∈ xs, d = g x ∧ e = f x) ds es → ∀ ys : List α, (∀ y ∈ ys, y ∈ xs) → ds = ys.map g → es = ys.map f := by
      intro ds es h
      induction h with
      | nil =>
        intro ys _ e
        rw [List.map_eq_nil_iff.mp e.symm]
        rfl
      | @yes ds es d e h1 h2 h3 ih =>
        intro ys hy e0
        obtain ⟨ys1, ys2, rfl, e1, e2⟩ := List.map_eq_append_iff.mp e0.symm
        obtain ⟨y, rfl⟩ : ∃ y, ys2 = [y] := by
          match ys2, e2 with
          | [y], _ => exact ⟨y, rfl⟩
        have e3 : g y = d := by simpa using e2
        obtain ⟨x, hx, hd, he⟩ := h3
        rw [List.map_append, ← ih ys1 (fun z hz => hy z (List.mem_append_left _ hz)) e1.symm, he, hf x hx y (hy y (by simp)) (by rw [e3, hd])]
        rfl
      | no _ h2 _ => cases h2
    exact key h xs (fun _ h => h) rfl
theorem en_mapD {α : Type} (xs : List α) (g f : α → Dat) (hw : EVF c cs Δ wi fun x => x = xs.map g) (hl : xs.length ≤ 50000) (hi : i ∈ vs) (hf : ∀ x ∈ xs, ∀ y ∈ xs, g x = g y → f x = f y)
    (he : ∀ x ∈ xs, EVD c cs ((wipeD Δ vs).set i (some (g x))) te (f x)) : EVD c cs Δ (tLc wi (gName i) tYes te vs) (.lst (xs.map f)) := (en_map xs g f hw hl hi hf he).goodD
end
/-! sizes -/
theorem cm_of {i j : Int} {a b : Nat} (h : i.natAbs < 2 ^ a) (h' : j.natAbs < 2 ^ b) (l : a + b ≤ 900000) : CMulW i j := wide_mul (a := a + 1) (b := b + 1) (Nat.lt_trans h (Nat.pow_lt_pow_right (by decide) (by omega))) (Nat.lt_trans h' (Nat.pow_lt_pow_right (by decide) (by omega))) (by omega) (by omega) (by omega)
section
variable {q r : Rat} {a b : Nat}
theorem cm_nn (h : Bd a q) (h' : Bd b r) (l : a + b ≤ 900000) : CMulW q.num r.num := cm_of h.1 h'.1 l
theorem cm_nd (h : Bd a q) (h' : Bd b r) (l : a + b ≤ 900000) : CMulW q.num r.den := cm_of h.1 (by simpa using h'.2) l
theorem cm_dn (h : Bd a q) (h' : Bd b r) (l : a + b ≤ 900000) : CMulW q.den r.num := cm_of (by simpa using h.2) h'.1 l
theorem cm_dd (h : Bd a q) (h' : Bd b r) (l : a + b ≤ 900000) : CMulW q.den r.den := cm_of (by simpa using h.2) (by simpa using h'.2) l
end
theorem log_lt {i : Int} {k : Nat} (h : i.natAbs < 2 ^ k) (h0 : 0 < k) : i.natAbs.log2 < k := PySem.Flt.log2_lt_of h0 h
end DV

set_option Elab.async false
set_option autoImplicit false
set_option linter.all false
set_option maxRecDepth 100000
set_option maxHeartbeats 0
namespace DV
open PySem PySem.Spec PyProof.Rows L2

def top (i : Nat) : Stmt := PySem.Challenge.pw_heardquotes_k11_whole_ratios_reckoned.main.body.getD i (.Pass ⟨0, 0, 0, 0⟩)
abbrev s_is_integer : Stmt := top 5
abbrev N_is_integer : List PySem.Str := ["value"]
theorem sc_is_integer : FnScope N_is_integer ["value"] (defScope s_is_integer) := ⟨rfl, rfl, rfl, by decide +kernel, rfl, by decide +kernel, by decide +kernel⟩
def d_is_integer : He5.DefA := ⟨fun K => He.ga K "is_integer", "is_integer", "is_integer", defArgs s_is_integer, defBody s_is_integer, defScope s_is_integer, [], []⟩
abbrev s_is_list : Stmt := top 6
abbrev N_is_list : List PySem.Str := ["value"]
theorem sc_is_list : FnScope N_is_list ["value"] (defScope s_is_list) := ⟨rfl, rfl, rfl, by decide +kernel, rfl, by decide +kernel, by decide +kernel⟩
def d_is_list : He5.DefA := ⟨fun K => He.ga K "is_list", "is_list", "is_list", defArgs s_is_list, defBody s_is_list, defScope s_is_list, [], []⟩
abbrev s_digits_of : Stmt := top 9
abbrev N_digits_of : List PySem.Str := ["number", "left", "told", "part", "sign"]
theorem sc_digits_of : FnScope N_digits_of ["number"] (defScope s_digits_of) := ⟨rfl, rfl, rfl, by decide +kernel, rfl, by decide +kernel, by decide +kernel⟩
def d_digits_of : He5.DefA := ⟨fun K => He.ga K "digits_of", "digits_of", "digits_of", defArgs s_digits_of, defBody s_digits_of, defScope s_digits_of, [], []⟩
abbrev s_common_part : Stmt := top 10
abbrev N_common_part : List PySem.Str := ["one", "other"]
theorem sc_common_part : FnScope N_common_part ["one", "other"] (defScope s_common_part) := ⟨rfl, rfl, rfl, by decide +kernel, rfl, by decide +kernel, by decide +kernel⟩
def d_common_part : He5.DefA := ⟨fun K => He.ga K "common_part", "common_part", "common_part", defArgs s_common_part, defBody s_common_part, defScope s_common_part, [], []⟩
abbrev s_Ratio___init__ : Stmt := inClass (top 11) 0
abbrev N_Ratio___init__ : List PySem.Str := ["self", "top", "bottom", "common"]
theorem sc_Ratio___init__ : FnScope N_Ratio___init__ ["self", "top", "bottom"] (defScope s_Ratio___init__) := ⟨rfl, rfl, rfl, by decide +kernel, rfl, by decide +kernel, by decide +kernel⟩
def d_Ratio___init__ : He5.DefA := ⟨fun K => He.ma K (He.ga K "Ratio") "__init__", "__init__", "Ratio.__init__", defArgs s_Ratio___init__, defBody s_Ratio___init__, defScope s_Ratio___init__, [.int 1], []⟩
abbrev s_Ratio_top : Stmt := inClass (top 11) 1
abbrev N_Ratio_top : List PySem.Str := ["self"]
theorem sc_Ratio_top : FnScope N_Ratio_top ["self"] (defScope s_Ratio_top) := ⟨rfl, rfl, rfl, by decide +kernel, rfl, by decide +kernel, by decide +kernel⟩
def d_Ratio_top : He5.DefA := ⟨fun K => He5.wf K (He.ga K "Ratio") "property" "top", "top", "Ratio.top", defArgs s_Ratio_top, defBody s_Ratio_top, defScope s_Ratio_top, [], []⟩
abbrev s_Ratio_bottom : Stmt := inClass (top 11) 2
abbrev N_Ratio_bottom : List PySem.Str := ["self"]
theorem sc_Ratio_bottom : FnScope N_Ratio_bottom ["self"] (defScope s_Ratio_bottom) := ⟨rfl, rfl, rfl, by decide +kernel, rfl, by decide +kernel, by decide +kernel⟩
def d_Ratio_bottom : He5.DefA := ⟨fun K => He5.wf K (He.ga K "Ratio") "property" "bottom", "bottom", "Ratio.bottom", defArgs s_Ratio_bottom, defBody s_Ratio_bottom, defScope s_Ratio_bottom, [], []⟩
abbrev s_Ratio_sign : Stmt := inClass (top 11) 3
abbrev N_Ratio_sign : List PySem.Str := ["self"]
theorem sc_Ratio_sign : FnScope N_Ratio_sign ["self"] (defScope s_Ratio_sign) := ⟨rfl, rfl, rfl, by decide +kernel, rfl, by decide +kernel, by decide +kernel⟩
def d_Ratio_sign : He5.DefA := ⟨fun K => He5.wf K (He.ga K "Ratio") "property" "sign", "sign", "Ratio.sign", defArgs s_Ratio_sign, defBody s_Ratio_sign, defScope s_Ratio_sign, [], []⟩
abbrev s_Ratio_is_whole : Stmt := inClass (top 11) 4
abbrev N_Ratio_is_whole : List PySem.Str := ["self"]
theorem sc_Ratio_is_whole : FnScope N_Ratio_is_whole ["self"] (defScope s_Ratio_is_whole) := ⟨rfl, rfl, rfl, by decide +kernel, rfl, by decide +kernel, by decide +kernel⟩
def d_Ratio_is_whole : He5.DefA := ⟨fun K => He5.wf K (He.ga K "Ratio") "property" "is_whole", "is_whole", "Ratio.is_whole", defArgs s_Ratio_is_whole, defBody s_Ratio_is_whole, defScope s_Ratio_is_whole, [], []⟩
abbrev s_Ratio_total : Stmt := inClass (top 11) 5
abbrev N_Ratio_total : List PySem.Str := ["cls", "numbers", "number"]
theorem sc_Ratio_total : FnScope N_Ratio_total ["cls", "numbers"] (defScope s_Ratio_total) := ⟨rfl, rfl, rfl, by decide +kernel, rfl, by decide +kernel, by decide +kernel⟩
def d_Ratio_total : He5.DefA := ⟨fun K => He5.wf K (He.ga K "Ratio") "classmethod" "total", "total", "Ratio.total", defArgs s_Ratio_total, defBody s_Ratio_total, defScope s_Ratio_total, [], []⟩
abbrev s_Ratio___add__ : Stmt := inClass (top 11) 6
abbrev N_Ratio___add__ : List PySem.Str := ["self", "other", "top", "bottom"]
theorem sc_Ratio___add__ : FnScope N_Ratio___add__ ["self", "other"] (defScope s_Ratio___add__) := ⟨rfl, rfl, rfl, by decide +kernel, rfl, by decide +kernel, by decide +kernel⟩
def d_Ratio___add__ : He5.DefA := ⟨fun K => He.ma K (He.ga K "Ratio") "__add__", "__add__", "Ratio.__add__", defArgs s_Ratio___add__, defBody s_Ratio___add__, defScope s_Ratio___add__, [], []⟩
abbrev s_Ratio___radd__ : Stmt := inClass (top 11) 7
abbrev N_Ratio___radd__ : List PySem.Str := ["self", "other", "top", "bottom"]
theorem sc_Ratio___radd__ : FnScope N_Ratio___radd__ ["self", "other"] (defScope s_Ratio___radd__) := ⟨rfl, rfl, rfl, by decide +kernel, rfl, by decide +kernel, by decide +kernel⟩
def d_Ratio___radd__ : He5.DefA := ⟨fun K => He.ma K (He.ga K "Ratio") "__radd__", "__radd__", "Ratio.__radd__", defArgs s_Ratio___radd__, defBody s_Ratio___radd__, defScope s_Ratio___radd__, [], []⟩
abbrev s_Ratio___sub__ : Stmt := inClass (top 11) 8
abbrev N_Ratio___sub__ : List PySem.Str := ["self", "other", "top", "bottom"]
theorem sc_Ratio___sub__ : FnScope N_Ratio___sub__ ["self", "other"] (defScope s_Ratio___sub__) := ⟨rfl, rfl, rfl, by decide +kernel, rfl, by decide +kernel, by decide +kernel⟩
def d_Ratio___sub__ : He5.DefA := ⟨fun K => He.ma K (He.ga K "Ratio") "__sub__", "__sub__", "Ratio.__sub__", defArgs s_Ratio___sub__, defBody s_Ratio___sub__, defScope s_Ratio___sub__, [], []⟩
abbrev s_Ratio___rsub__ : Stmt := inClass (top 11) 9
abbrev N_Ratio___rsub__ : List PySem.Str := ["self", "other", "top", "bottom"]
theorem sc_Ratio___rsub__ : FnScope N_Ratio___rsub__ ["self", "other"] (defScope s_Ratio___rsub__) := ⟨rfl, rfl, rfl, by decide +kernel, rfl, by decide +kernel, by decide +kernel⟩
def d_Ratio___rsub__ : He5.DefA := ⟨fun K => He.ma K (He.ga K "Ratio") "__rsub__", "__rsub__", "Ratio.__rsub__", defArgs s_Ratio___rsub__, defBody s_Ratio___rsub__, defScope s_Ratio___rsub__, [], []⟩
abbrev s_Ratio___mul__ : Stmt := inClass (top 11) 10
abbrev N_Ratio___mul__ : List PySem.Str := ["self", "other", "top", "bottom"]
theorem sc_Ratio___mul__ : FnScope N_Ratio___mul__ ["self", "other"] (defScope s_Ratio___mul__) := ⟨rfl, rfl, rfl, by decide +kernel, rfl, by decide +kernel, by decide +kernel⟩
def d_Ratio___mul__ : He5.DefA := ⟨fun K => He.ma K (He.ga K "Ratio") "__mul__", "__mul__", "Ratio.__mul__", defArgs s_Ratio___mul__, defBody s_Ratio___mul__, defScope s_Ratio___mul__, [], []⟩
abbrev s_Ratio___rmul__ : Stmt := inClass (top 11) 11
abbrev N_Ratio___rmul__ : List PySem.Str := ["self", "other", "top", "bottom"]
theorem sc_Ratio___rmul__ : FnScope N_Ratio___rmul__ ["self", "other"] (defScope s_Ratio___rmul__) := ⟨rfl, rfl, rfl, by decide +kernel, rfl, by decide +kernel, by decide +kernel⟩
def d_Ratio___rmul__ : He5.DefA := ⟨fun K => He.ma K (He.ga K "Ratio") "__rmul__", "__rmul__", "Ratio.__rmul__", defArgs s_Ratio___rmul__, defBody s_Ratio___rmul__, defScope s_Ratio___rmul__, [], []⟩
abbrev s_Ratio___neg__ : Stmt := inClass (top 11) 12
abbrev N_Ratio___neg__ : List PySem.Str := ["self"]
theorem sc_Ratio___neg__ : FnScope N_Ratio___neg__ ["self"] (defScope s_Ratio___neg__) := ⟨rfl, rfl, rfl, by decide +kernel, rfl, by decide +kernel, by decide +kernel⟩
def d_Ratio___neg__ : He5.DefA := ⟨fun K => He.ma K (He.ga K "Ratio") "__neg__", "__neg__", "Ratio.__neg__", defArgs s_Ratio___neg__, defBody s_Ratio___neg__, defScope s_Ratio___neg__, [], []⟩
abbrev s_Ratio_over : Stmt := inClass (top 11) 13
abbrev N_Ratio_over : List PySem.Str := ["self", "other", "top", "bottom"]
theorem sc_Ratio_over : FnScope N_Ratio_over ["self", "other"] (defScope s_Ratio_over) := ⟨rfl, rfl, rfl, by decide +kernel, rfl, by decide +kernel, by decide +kernel⟩
def d_Ratio_over : He5.DefA := ⟨fun K => He.ma K (He.ga K "Ratio") "over", "over", "Ratio.over", defArgs s_Ratio_over, defBody s_Ratio_over, defScope s_Ratio_over, [], []⟩
abbrev s_Ratio_size : Stmt := inClass (top 11) 14
abbrev N_Ratio_size : List PySem.Str := ["self"]
theorem sc_Ratio_size : FnScope N_Ratio_size ["self"] (defScope s_Ratio_size) := ⟨rfl, rfl, rfl, by decide +kernel, rfl, by decide +kernel, by decide +kernel⟩
def d_Ratio_size : He5.DefA := ⟨fun K => He.ma K (He.ga K "Ratio") "size", "size", "Ratio.size", defArgs s_Ratio_size, defBody s_Ratio_size, defScope s_Ratio_size, [], []⟩
abbrev s_Ratio_is_below : Stmt := inClass (top 11) 15
abbrev N_Ratio_is_below : List PySem.Str := ["self", "other", "top", "bottom"]
theorem sc_Ratio_is_below : FnScope N_Ratio_is_below ["self", "other"] (defScope s_Ratio_is_below) := ⟨rfl, rfl, rfl, by decide +kernel, rfl, by decide +kernel, by decide +kernel⟩
def d_Ratio_is_below : He5.DefA := ⟨fun K => He.ma K (He.ga K "Ratio") "is_below", "is_below", "Ratio.is_below", defArgs s_Ratio_is_below, defBody s_Ratio_is_below, defScope s_Ratio_is_below, [], []⟩
abbrev s_Ratio_is_at_most : Stmt := inClass (top 11) 16
abbrev N_Ratio_is_at_most : List PySem.Str := ["self", "other", "top", "bottom"]
theorem sc_Ratio_is_at_most : FnScope N_Ratio_is_at_most ["self", "other"] (defScope s_Ratio_is_at_most) := ⟨rfl, rfl, rfl, by decide +kernel, rfl, by decide +kernel, by decide +kernel⟩
def d_Ratio_is_at_most : He5.DefA := ⟨fun K => He.ma K (He.ga K "Ratio") "is_at_most", "is_at_most", "Ratio.is_at_most", defArgs s_Ratio_is_at_most, defBody s_Ratio_is_at_most, defScope s_Ratio_is_at_most, [], []⟩
abbrev s_Ratio___eq__ : Stmt := inClass (top 11) 17
abbrev N_Ratio___eq__ : List PySem.Str := ["self", "other"]
theorem sc_Ratio___eq__ : FnScope N_Ratio___eq__ ["self", "other"] (defScope s_Ratio___eq__) := ⟨rfl, rfl, rfl, by decide +kernel, rfl, by decide +kernel, by decide +kernel⟩
def d_Ratio___eq__ : He5.DefA := ⟨fun K => He.ma K (He.ga K "Ratio") "__eq__", "__eq__", "Ratio.__eq__", defArgs s_Ratio___eq__, defBody s_Ratio___eq__, defScope s_Ratio___eq__, [], []⟩
abbrev s_Ratio___str__ : Stmt := inClass (top 11) 18
abbrev N_Ratio___str__ : List PySem.Str := ["self"]
theorem sc_Ratio___str__ : FnScope N_Ratio___str__ ["self"] (defScope s_Ratio___str__) := ⟨rfl, rfl, rfl, by decide +kernel, rfl, by decide +kernel, by decide +kernel⟩
def d_Ratio___str__ : He5.DefA := ⟨fun K => He.ma K (He.ga K "Ratio") "__str__", "__str__", "Ratio.__str__", defArgs s_Ratio___str__, defBody s_Ratio___str__, defScope s_Ratio___str__, [], []⟩
abbrev s_Ratio___repr__ : Stmt := inClass (top 11) 19
abbrev N_Ratio___repr__ : List PySem.Str := ["self"]
theorem sc_Ratio___repr__ : FnScope N_Ratio___repr__ ["self"] (defScope s_Ratio___repr__) := ⟨rfl, rfl, rfl, by decide +kernel, rfl, by decide +kernel, by decide +kernel⟩
def d_Ratio___repr__ : He5.DefA := ⟨fun K => He.ma K (He.ga K "Ratio") "__repr__", "__repr__", "Ratio.__repr__", defArgs s_Ratio___repr__, defBody s_Ratio___repr__, defScope s_Ratio___repr__, [], []⟩
abbrev s_told_pair : Stmt := top 12
abbrev N_told_pair : List PySem.Str := ["value"]
theorem sc_told_pair : FnScope N_told_pair ["value"] (defScope s_told_pair) := ⟨rfl, rfl, rfl, by decide +kernel, rfl, by decide +kernel, by decide +kernel⟩
def d_told_pair : He5.DefA := ⟨fun K => He.ga K "told_pair", "told_pair", "told_pair", defArgs s_told_pair, defBody s_told_pair, defScope s_told_pair, [], []⟩
abbrev s_is_number : Stmt := top 13
abbrev N_is_number : List PySem.Str := ["value"]
theorem sc_is_number : FnScope N_is_number ["value"] (defScope s_is_number) := ⟨rfl, rfl, rfl, by decide +kernel, rfl, by decide +kernel, by decide +kernel⟩
def d_is_number : He5.DefA := ⟨fun K => He.ga K "is_number", "is_number", "is_number", defArgs s_is_number, defBody s_is_number, defScope s_is_number, [], []⟩
abbrev s_ratio_of : Stmt := top 14
abbrev N_ratio_of : List PySem.Str := ["number"]
theorem sc_ratio_of : FnScope N_ratio_of ["number"] (defScope s_ratio_of) := ⟨rfl, rfl, rfl, by decide +kernel, rfl, by decide +kernel, by decide +kernel⟩
def d_ratio_of : He5.DefA := ⟨fun K => He.ga K "ratio_of", "ratio_of", "ratio_of", defArgs s_ratio_of, defBody s_ratio_of, defScope s_ratio_of, [], []⟩
abbrev s_want_number : Stmt := top 15
abbrev N_want_number : List PySem.Str := ["value"]
theorem sc_want_number : FnScope N_want_number ["value"] (defScope s_want_number) := ⟨rfl, rfl, rfl, by decide +kernel, rfl, by decide +kernel, by decide +kernel⟩
def d_want_number : He5.DefA := ⟨fun K => He.ga K "want_number", "want_number", "want_number", defArgs s_want_number, defBody s_want_number, defScope s_want_number, [], []⟩
abbrev s_total_of : Stmt := top 16
abbrev N_total_of : List PySem.Str := ["ratios", "found", "ratio"]
theorem sc_total_of : FnScope N_total_of ["ratios"] (defScope s_total_of) := ⟨rfl, rfl, rfl, by decide +kernel, rfl, by decide +kernel, by decide +kernel⟩
def d_total_of : He5.DefA := ⟨fun K => He.ga K "total_of", "total_of", "total_of", defArgs s_total_of, defBody s_total_of, defScope s_total_of, [], []⟩
abbrev s__law_pot : Stmt := top 18
abbrev N__law_pot : List PySem.Str := ["script", "k", "cell"]
theorem sc__law_pot : FnScope N__law_pot ["script", "k"] (defScope s__law_pot) := ⟨rfl, rfl, rfl, by decide +kernel, rfl, by decide +kernel, by decide +kernel⟩
def d__law_pot : He5.DefA := ⟨fun K => He.ga K "_law_pot", "_law_pot", "_law_pot", defArgs s__law_pot, defBody s__law_pot, defScope s__law_pot, [], []⟩
abbrev s__law_draw : Stmt := top 19
abbrev N__law_draw : List PySem.Str := ["pot", "size", "digit"]
theorem sc__law_draw : FnScope N__law_draw ["pot", "size"] (defScope s__law_draw) := ⟨rfl, rfl, rfl, by decide +kernel, rfl, by decide +kernel, by decide +kernel⟩
def d__law_draw : He5.DefA := ⟨fun K => He.ga K "_law_draw", "_law_draw", "_law_draw", defArgs s__law_draw, defBody s__law_draw, defScope s__law_draw, [], []⟩
abbrev s__law_pick : Stmt := top 20
abbrev N__law_pick : List PySem.Str := ["pot", "some"]
theorem sc__law_pick : FnScope N__law_pick ["pot", "some"] (defScope s__law_pick) := ⟨rfl, rfl, rfl, by decide +kernel, rfl, by decide +kernel, by decide +kernel⟩
def d__law_pick : He5.DefA := ⟨fun K => He.ga K "_law_pick", "_law_pick", "_law_pick", defArgs s__law_pick, defBody s__law_pick, defScope s__law_pick, [], []⟩
abbrev s__law_low : Stmt := top 21
abbrev N__law_low : List PySem.Str := ["above", "below", "one", "other"]
theorem sc__law_low : FnScope N__law_low ["above", "below"] (defScope s__law_low) := ⟨rfl, rfl, rfl, by decide +kernel, rfl, by decide +kernel, by decide +kernel⟩
def d__law_low : He5.DefA := ⟨fun K => He.ga K "_law_low", "_law_low", "_law_low", defArgs s__law_low, defBody s__law_low, defScope s__law_low, [], []⟩
abbrev s__law_pair : Stmt := top 22
abbrev N__law_pair : List PySem.Str := ["number"]
theorem sc__law_pair : FnScope N__law_pair ["number"] (defScope s__law_pair) := ⟨rfl, rfl, rfl, by decide +kernel, rfl, by decide +kernel, by decide +kernel⟩
def d__law_pair : He5.DefA := ⟨fun K => He.ga K "_law_pair", "_law_pair", "_law_pair", defArgs s__law_pair, defBody s__law_pair, defScope s__law_pair, [], []⟩
abbrev s__law_plus : Stmt := top 23
abbrev N__law_plus : List PySem.Str := ["one", "other"]
theorem sc__law_plus : FnScope N__law_plus ["one", "other"] (defScope s__law_plus) := ⟨rfl, rfl, rfl, by decide +kernel, rfl, by decide +kernel, by decide +kernel⟩
def d__law_plus : He5.DefA := ⟨fun K => He.ga K "_law_plus", "_law_plus", "_law_plus", defArgs s__law_plus, defBody s__law_plus, defScope s__law_plus, [], []⟩
abbrev s__law_times : Stmt := top 24
abbrev N__law_times : List PySem.Str := ["one", "other"]
theorem sc__law_times : FnScope N__law_times ["one", "other"] (defScope s__law_times) := ⟨rfl, rfl, rfl, by decide +kernel, rfl, by decide +kernel, by decide +kernel⟩
def d__law_times : He5.DefA := ⟨fun K => He.ga K "_law_times", "_law_times", "_law_times", defArgs s__law_times, defBody s__law_times, defScope s__law_times, [], []⟩
abbrev s__law_is_most : Stmt := top 26
abbrev N__law_is_most : List PySem.Str := ["one", "other"]
theorem sc__law_is_most : FnScope N__law_is_most ["one", "other"] (defScope s__law_is_most) := ⟨rfl, rfl, rfl, by decide +kernel, rfl, by decide +kernel, by decide +kernel⟩
def d__law_is_most : He5.DefA := ⟨fun K => He.ga K "_law_is_most", "_law_is_most", "_law_is_most", defArgs s__law_is_most, defBody s__law_is_most, defScope s__law_is_most, [], []⟩
abbrev s__law_drawn : Stmt := top 27
abbrev N__law_drawn : List PySem.Str := ["pot", "wide", "above", "below", "many"]
theorem sc__law_drawn : FnScope N__law_drawn ["pot"] (defScope s__law_drawn) := ⟨rfl, rfl, rfl, by decide +kernel, rfl, by decide +kernel, by decide +kernel⟩
def d__law_drawn : He5.DefA := ⟨fun K => He.ga K "_law_drawn", "_law_drawn", "_law_drawn", defArgs s__law_drawn, defBody s__law_drawn, defScope s__law_drawn, [], []⟩
abbrev s__law_shown : Stmt := top 28
abbrev N__law_shown : List PySem.Str := ["pair"]
theorem sc__law_shown : FnScope N__law_shown ["pair"] (defScope s__law_shown) := ⟨rfl, rfl, rfl, by decide +kernel, rfl, by decide +kernel, by decide +kernel⟩
def d__law_shown : He5.DefA := ⟨fun K => He.ga K "_law_shown", "_law_shown", "_law_shown", defArgs s__law_shown, defBody s__law_shown, defScope s__law_shown, [], []⟩
abbrev s__law_one_right : Stmt := top 29
abbrev N__law_one_right : List PySem.Str := ["drawn", "due", "one", "told", "whole"]
theorem sc__law_one_right : FnScope N__law_one_right ["drawn"] (defScope s__law_one_right) := ⟨rfl, rfl, rfl, by decide +kernel, rfl, by decide +kernel, by decide +kernel⟩
def d__law_one_right : He5.DefA := ⟨fun K => He.ga K "_law_one_right", "_law_one_right", "_law_one_right", defArgs s__law_one_right, defBody s__law_one_right, defScope s__law_one_right, [], []⟩
abbrev s__law_two_right : Stmt := top 30
abbrev N__law_two_right : List PySem.Str := ["one", "other", "near", "far", "left", "right", "minus", "told", "due", "is_most", "is_less", "value"]
theorem sc__law_two_right : FnScope N__law_two_right ["one", "other"] (defScope s__law_two_right) := ⟨rfl, rfl, rfl, by decide +kernel, rfl, by decide +kernel, by decide +kernel⟩
def d__law_two_right : He5.DefA := ⟨fun K => He.ga K "_law_two_right", "_law_two_right", "_law_two_right", defArgs s__law_two_right, defBody s__law_two_right, defScope s__law_two_right, [], []⟩
abbrev s__law_whole_right : Stmt := top 31
abbrev N__law_whole_right : List PySem.Str := ["one", "number", "near", "left", "right", "told", "due", "value"]
theorem sc__law_whole_right : FnScope N__law_whole_right ["one", "number"] (defScope s__law_whole_right) := ⟨rfl, rfl, rfl, by decide +kernel, rfl, by decide +kernel, by decide +kernel⟩
def d__law_whole_right : He5.DefA := ⟨fun K => He.ga K "_law_whole_right", "_law_whole_right", "_law_whole_right", defArgs s__law_whole_right, defBody s__law_whole_right, defScope s__law_whole_right, [], []⟩
abbrev s__law_sums_right : Stmt := top 32
abbrev N__law_sums_right : List PySem.Str := ["pot", "drawn", "numbers", "due", "number", "told", "a", "b", "c", "one", "value"]
theorem sc__law_sums_right : FnScope N__law_sums_right ["pot", "drawn"] (defScope s__law_sums_right) := ⟨rfl, rfl, rfl, by decide +kernel, rfl, by decide +kernel, by decide +kernel⟩
def d__law_sums_right : He5.DefA := ⟨fun K => He.ga K "_law_sums_right", "_law_sums_right", "_law_sums_right", defArgs s__law_sums_right, defBody s__law_sums_right, defScope s__law_sums_right, [], []⟩
abbrev s__law_right : Stmt := top 33
abbrev N__law_right : List PySem.Str := ["pot", "drawn", "one", "number", "turn", "other"]
theorem sc__law_right : FnScope N__law_right ["pot"] (defScope s__law_right) := ⟨rfl, rfl, rfl, by decide +kernel, rfl, by decide +kernel, by decide +kernel⟩
def d__law_right : He5.DefA := ⟨fun K => He.ga K "_law_right", "_law_right", "_law_right", defArgs s__law_right, defBody s__law_right, defScope s__law_right, [], []⟩
abbrev s_law : Stmt := top 34
abbrev N_law : List PySem.Str := ["script", "k"]
theorem sc_law : FnScope N_law ["script"] (defScope s_law) := ⟨rfl, rfl, rfl, by decide +kernel, rfl, by decide +kernel, by decide +kernel⟩
def d_law : He5.DefA := ⟨fun K => He.ga K "law", "law", "law", defArgs s_law, defBody s_law, defScope s_law, [], []⟩
def fnl : List He5.DefA := [d_is_integer, d_is_list, d_digits_of, d_common_part, d_Ratio___init__, d_Ratio_top, d_Ratio_bottom, d_Ratio_sign, d_Ratio_is_whole, d_Ratio_total, d_Ratio___add__, d_Ratio___radd__, d_Ratio___sub__, d_Ratio___rsub__, d_Ratio___mul__, d_Ratio___rmul__, d_Ratio___neg__, d_Ratio_over, d_Ratio_size, d_Ratio_is_below, d_Ratio_is_at_most, d_Ratio___eq__] ++ [d_Ratio___str__, d_Ratio___repr__, d_told_pair, d_is_number, d_ratio_of, d_want_number, d_total_of, d__law_pot, d__law_draw, d__law_pick, d__law_low, d__law_pair, d__law_plus, d__law_times, d__law_is_most, d__law_drawn, d__law_shown, d__law_one_right, d__law_two_right, d__law_whole_right, d__law_sums_right, d__law_right, d_law]
def glx : List PySem.Str := ["is_integer", "is_list", "digits_of", "common_part", "Ratio", "told_pair", "is_number", "ratio_of", "want_number", "total_of", "_law_pot", "_law_draw", "_law_pick", "_law_low", "_law_pair", "_law_plus", "_law_times", "_law_is_most", "_law_drawn", "_law_shown", "_law_one_right", "_law_two_right", "_law_whole_right", "_law_sums_right", "_law_right", "law"]
def frx : List PySem.Str := ["isinstance", "int", "bool", "list", "tuple", "abs", "max", "min", "len", "str", "repr", "divmod", "all", "range"]
def msx : List PySem.Str := ["__add__", "__radd__", "__sub__", "__rsub__", "__mul__", "__rmul__", "__neg__", "over", "size", "is_below", "is_at_most", "__eq__", "__str__", "__repr__"]
def propB (K : PySem.W.Frag) (C : Addr) (f : PySem.Str) : Bool := He.eqO (PySem.W.findIn K (.ref C) f) (some (some (.ref (He.ma K C f)))) && (He.eqO (PySem.W.specialIn K (.ref (He.ma K C f)) "__get__") (some (some (.builtin "property.__get__"))) &&
  (decide (PySem.W.takesIn K (.ref (He.ma K C f)) = some true) && (match PySem.W.recIn K (He.ma K C f) "property" with
    | some (.ref _ :: _) => true
    | _ => false)))
def fal : List He.Fa := glx.map He.Fa.glo ++ glx.map He.Fa.keep ++ frx.map He.Fa.free ++ msx.map (He.Fa.meth "Ratio") ++ [.int "PART" (10 ^ 60), .cls "Ratio", .mkr "Ratio", .noat "Ratio" "own_top", .noat "Ratio" "own_bottom"]
/-- facts of one's own -/
def exB (K : PySem.W.Frag) : Bool :=
  [He.ga K "Ratio"].all fun C => PySem.W.selfFirst K C && (decide (PySem.W.subIn K (.type "int") (.ref C) = some false) && (decide (PySem.W.subIn K (.ref C) (.type "int") = some false) &&
  ((["add", "sub", "mul"].all fun nm => (PySem.W.findIn K (.type "int") (PySem.dunder nm)).isSome && (PySem.W.findIn K (.type "int") (dunderR nm)).isSome) &&
  (He.eqO (PySem.W.findIn K (.ref C) "__ne__") (some (some (.builtin "object.__ne__"))) && (decide (PySem.W.mroIn K C (.type "object") = some true) &&
  (He.eqO (PySem.W.findIn K (.ref C) "__class__") (some (some (.builtin "object.__class__"))) && (He.eqO (PySem.W.specialIn K (.builtin "object.__class__") "__get__") (some (some (.builtin "getset_descriptor.__get__"))) && (decide (PySem.W.takesIn K (.builtin "object.__class__") = some true) &&
  (decide (PySem.W.kitOne K (.type "int") (.ref C) = some false) && (decide (PySem.W.kitOne K (.ref C) (.type "int") = some false) &&
  ((["top", "bottom", "sign", "is_whole"].all fun f => propB K C f) &&
  (PySem.W.readsIn K C (.type "type") && (He5.wrapB K C "classmethod" "classmethod.__get__" "total" && PySem.W.fnIn K (He5.wf K C "classmethod" "total"))))))))))))))

abbrev R11 : PySem.W.OpenRow := PySem.W.OpenLaw.row PySem.Challenge.rw_heardquotes_k11_whole_ratios_reckoned
abbrev hk : PySem.W.Hook := hookV 6 fal fnl exB
def ob (s : PySem.W.SharedT) : He.AlD × Bool := obsV 6 fal fnl exB (HandSHeadRun.getT s)
theorem ob_eq (s : PySem.W.SharedT) : ob s = hk.obs s.abs := obsV_eq (HandSHeadRun.getT_eq s)

def names : List PySem.Str := ["MarketError", "InvalidNumber", "DividedByZero", "is_integer", "is_list", "digits_of", "common_part", "Ratio", "told_pair", "is_number", "ratio_of", "want_number", "total_of", "_law_pot", "_law_draw", "_law_pick", "_law_low", "_law_pair", "_law_plus", "_law_times", "_law_dot", "_law_is_most", "_law_drawn", "_law_shown", "_law_one_right", "_law_two_right", "_law_whole_right", "_law_sums_right", "_law_right", "PART"]
end DV

set_option Elab.async false
set_option autoImplicit false
set_option linter.all false
set_option maxRecDepth 100000
set_option maxHeartbeats 4000000
namespace DV
open PySem PySem.Spec PyProof.Rows L2
/-! ### what the text says -/
abbrev cR (K : PySem.W.Frag) : Addr := He.ga K "Ratio"
structure Tx (K : PySem.W.Frag) (mg : PySem.Str → Option Value) : Prop where
  c : He5.SaysA fal fnl K
  e : exB K = true
  x : ∃ h : Heap, K.In h ∧ h.Ns mainGlobals mg
section
variable {K : PySem.W.Frag} {mg : PySem.Str → Option Value}
theorem Tx.fact (T : Tx K mg) {f : He.Fa} (h : f ∈ fal) : f.ok K = true := by
  have c1 := (He.ba (show ((fal.all fun f => f.ok K) && fnl.all fun d => d.ok K) = true from congrArg (fun z : He.AlD => z.1) T.c)).1
  exact List.all_eq_true.mp c1 f h
theorem in_glo {x : PySem.Str} (h : x ∈ glx) : He.Fa.glo x ∈ fal := by
  unfold fal
  exact List.mem_append_left _ (List.mem_append_left _ (List.mem_append_left _ (List.mem_append_left _ (List.mem_map.mpr ⟨x, h, rfl⟩))))
theorem in_keep {x : PySem.Str} (h : x ∈ glx) : He.Fa.keep x ∈ fal := by
  unfold fal
  exact List.mem_append_left _ (List.mem_append_left _ (List.mem_append_left _ (List.mem_append_right _ (List.mem_map.mpr ⟨x, h, rfl⟩))))
theorem in_free {x : PySem.Str} (h : x ∈ frx) : He.Fa.free x ∈ fal := by
  unfold fal
  exact List.mem_append_left _ (List.mem_append_left _ (List.mem_append_right _ (List.mem_map.mpr ⟨x, h, rfl⟩)))
theorem in_meth {x : PySem.Str} (h : x ∈ msx) : He.Fa.meth "Ratio" x ∈ fal := by
  unfold fal
  exact List.mem_append_left _ (List.mem_append_right _ (List.mem_map.mpr ⟨x, h, rfl⟩))
theorem Tx.g_ (T : Tx K mg) (x : PySem.Str) (h : x ∈ glx := by decide +kernel) : mg x = some (.ref (He.ga K x)) := by
  obtain ⟨hp, X, G⟩ := T.x
  exact He.glo_ok X G (T.fact (in_glo h))
theorem Tx.k_ (T : Tx K mg) (x : PySem.Str) (h : x ∈ glx := by decide +kernel) : PySem.W.keepIn K (.ref (He.ga K x)) = true := T.fact (in_keep h)
theorem Tx.f_ (T : Tx K mg) (x : PySem.Str) (h : x ∈ frx := by decide +kernel) : mg x = none := by
  obtain ⟨hp, X, G⟩ := T.x
  exact He.free_ok X G (T.fact (in_free h))
theorem Tx.m_Ratio (T : Tx K mg) (x : PySem.Str) (h : x ∈ msx := by decide +kernel) : Meth K (cR K) x (He.ma K (cR K) x) := He.meth_ok (T.fact (in_meth h))
theorem in_last {f : He.Fa} (h : f ∈ [He.Fa.int "PART" (10 ^ 60), .cls "Ratio", .mkr "Ratio", .noat "Ratio" "own_top", .noat "Ratio" "own_bottom"]) : f ∈ fal := by
  unfold fal
  exact List.mem_append_right _ h
theorem Tx.Ratio_cl (T : Tx K mg) : Cls K (cR K) := He.cls_ok (x := "Ratio") (T.fact (in_last (List.mem_of_getElem? (i := 1) rfl)))
theorem Tx.Ratio_mk (T : Tx K mg) : Mk K (cR K) (He.ma K (cR K) "__init__") := He.mkr_ok (x := "Ratio") (T.fact (in_last (List.mem_of_getElem? (i := 2) rfl)))
theorem Tx.nt (T : Tx K mg) : NoAttr K (cR K) "own_top" := He.noat_ok (T.fact (in_last (List.mem_of_getElem? (i := 3) rfl)))
theorem Tx.nb (T : Tx K mg) : NoAttr K (cR K) "own_bottom" := He.noat_ok (T.fact (in_last (List.mem_of_getElem? (i := 4) rfl)))
/-- the value of the text's constant -/
def partI : Int := 10 ^ 60
theorem Tx.part (T : Tx K mg) : ∃ t, mg "PART" = some (.int partI t) := by
  obtain ⟨hp, X, G⟩ := T.x
  exact He.int_ok X G (T.fact (in_last (List.mem_of_getElem? (i := 0) rfl)))
/-- facts of one's own, one by one -/
structure Ex1 (K : PySem.W.Frag) : Prop where
  own : OwnC K (cR K)
  intf : ∀ nm ∈ (["add", "sub", "mul"] : List String), (PySem.W.findIn K (.type "int") (PySem.dunder nm)).isSome = true ∧ (PySem.W.findIn K (.type "int") (dunderR nm)).isSome = true
  ne : PySem.W.findIn K (.ref (cR K)) "__ne__" = some (some (.builtin "object.__ne__"))
  ob : PySem.W.mroIn K (cR K) (.type "object") = some true
  k1 : PySem.W.findIn K (.ref (cR K)) "__class__" = some (some (.builtin "object.__class__"))
  k2 : PySem.W.specialIn K (.builtin "object.__class__") "__get__" = some (some (.builtin "getset_descriptor.__get__"))
  k3 : PySem.W.takesIn K (.builtin "object.__class__") = some true
  ir : PySem.W.kitOne K (.type "int") (.ref (cR K)) = some false
  ri : PySem.W.kitOne K (.ref (cR K)) (.type "int") = some false
  pr : ∀ f ∈ (["top", "bottom", "sign", "is_whole"] : List String), propB K (cR K) f = true
  rd : PySem.W.readsIn K (cR K) (.type "type") = true
  cm : He5.wrapB K (cR K) "classmethod" "classmethod.__get__" "total" = true
  fi : PySem.W.fnIn K (He5.wf K (cR K) "classmethod" "total") = true
theorem Tx.ex1 (T : Tx K mg) : Ex1 K := by
  have h := T.e
  unfold exB at h
  rw [List.all_cons, List.all_nil, Bool.and_true] at h
  obtain ⟨h1, h⟩ := He.ba h
  obtain ⟨h2, h⟩ := He.ba h
  obtain ⟨h3, h⟩ := He.ba h
  obtain ⟨h4, h⟩ := He.ba h
  obtain ⟨h5, h⟩ := He.ba h
  obtain ⟨h6, h⟩ := He.ba h
  obtain ⟨h7, h⟩ := He.ba h
  obtain ⟨h8, h⟩ := He.ba h
  obtain ⟨h9, h⟩ := He.ba h
  obtain ⟨h10, h⟩ := He.ba h
  obtain ⟨h11, h⟩ := He.ba h
  obtain ⟨h12, h⟩ := He.ba h
  obtain ⟨h13, h⟩ := He.ba h
  obtain ⟨h14, h15⟩ := He.ba h
  exact ⟨⟨h1, of_decide_eq_true h2, of_decide_eq_true h3⟩, fun nm hn => He.ba (List.all_eq_true.mp h4 nm hn), He.eqO_ok h5, of_decide_eq_true h6, He.eqO_ok h7, He.eqO_ok h8, of_decide_eq_true h9, of_decide_eq_true h10, of_decide_eq_true h11,
    fun f hf => List.all_eq_true.mp h12 f hf, h13, h14, h15⟩
theorem propB_ok {C : Addr} {f : PySem.Str} (h : propB K C f = true) : PropOf K C f (He.ma K C f) (He5.wf K C "property" f) := by
  unfold propB at h
  obtain ⟨h1, h⟩ := He.ba h
  obtain ⟨h2, h⟩ := He.ba h
  obtain ⟨h3, h4⟩ := He.ba h
  refine ⟨He.eqO_ok h1, He.eqO_ok h2, of_decide_eq_true h3, ?_⟩
  unfold He5.wf
  split at h4
  · rename_i g r e
    exact ⟨r, by rw [e]⟩
  · cases h4
theorem Tx.Ratio_rd (T : Tx K mg) : ClX.CRead K (cR K) (.type "type") := by
  have h := T.ex1.rd
  refine ⟨h, ?_⟩
  unfold PySem.W.readsIn at h
  obtain ⟨h, _⟩ := He.ba h
  obtain ⟨h, _⟩ := He.ba h
  obtain ⟨h, h3⟩ := He.ba h
  obtain ⟨_, h2⟩ := He.ba h
  unfold PySem.W.specialIn
  rw [beq_iff_eq.mp h2, Option.bind_some]
  exact beq_iff_eq.mp h3
theorem Tx.Ratio_total_cm (T : Tx K mg) : ClX.CMet K (cR K) (.type "type") "total" (He.ma K (cR K) "total") (He5.wf K (cR K) "classmethod" "total") := He5.cmet_of T.ex1.cm T.ex1.fi
theorem Tx.isi (T : Tx K mg) : IsiC K (cR K) := ⟨T.Ratio_cl, T.ex1.k1, T.ex1.k2, T.ex1.k3, T.ex1.ob⟩
theorem Tx.rr (T : Tx K mg) : PySem.W.kitOne K (.ref (cR K)) (.ref (cR K)) = some true := by
  unfold PySem.W.kitOne
  rw [if_pos (by simp)]
end
/-! ### data -/
def rat (K : PySem.W.Frag) (q : Rat) : Dat := .ins (cR K) ["own_top", "own_bottom"] [.int q.num, .int (q.den : Int)]
/-- an int or a ratio -/
inductive Num where
  | i (n : Int) | r (q : Rat)
def Num.d (K : PySem.W.Frag) : Num → Dat
  | .i n => .int n
  | .r q => rat K q
def Num.v : Num → Rat
  | .i n => (n : Rat)
  | .r q => q
def pr (q : Rat) : Dat := .tup [.int q.num, .int (q.den : Int)]
section
variable {c : Ct} {cs : Cells} {Δ : Sts} {te : TE} {q : Rat} {mg : PySem.Str → Option Value}
theorem v_ftop (T : Tx c.K mg) (h : EVD c cs Δ te (rat c.K q)) : EVD c cs Δ (tFld c.K te "own_top") (.int q.num) := ev_fld (i := 0) T.Ratio_cl T.nt h (by decide +kernel) rfl
theorem v_fbot (T : Tx c.K mg) (h : EVD c cs Δ te (rat c.K q)) : EVD c cs Δ (tFld c.K te "own_bottom") (.int (q.den : Int)) := ev_fld (i := 1) T.Ratio_cl T.nb h (by decide +kernel) rfl
end


/-! ### readings with the text's own part named -/
section
variable {X : Cx} {K : PySem.W.Frag} {mg : PySem.Str → Option Value} {j : Nat} {e : Expr} {te : TE} {tg : Expr} {f : PySem.Str} {pos : Pos}
abbrev AtX (X : Cx) (K : PySem.W.Frag) (mg : PySem.Str → Option Value) : Prop := X.K = K ∧ X.mg = mg
theorem x_add (T : Tx K mg) (hX : AtX X K mg := by exact ⟨rfl, rfl⟩) : OpR X (binaryOp .Add) (bAdd K) := hX.1 ▸ o_add
theorem x_eq (T : Tx K mg) (hr : RoomG j X.A) (hX : AtX X K mg := by exact ⟨rfl, rfl⟩) : OpR X (compareOp .Eq) (bEq K) := hX.1 ▸ o_eq hr
theorem x_ne (T : Tx K mg) (hr : RoomG j X.A) (hX : AtX X K mg := by exact ⟨rfl, rfl⟩) : OpR X (compareOp .NotEq) (bNe K) := hX.1 ▸ o_ne hr
theorem x_len (T : Tx K mg) (hX : AtX X K mg := by exact ⟨rfl, rfl⟩) : CallR X (.builtin "len") (bLen K) := hX.1 ▸ k_len
theorem x_tup (T : Tx K mg) (hX : AtX X K mg := by exact ⟨rfl, rfl⟩) : CallR X (.type "tuple") (bTup K) := hX.1 ▸ k_tup
theorem x_isi (T : Tx K mg) (hX : AtX X K mg := by exact ⟨rfl, rfl⟩) : CallR X (.builtin "isinstance") (bIsi K) := hX.1 ▸ k_isi
theorem x_all (T : Tx K mg) (hc : X.calm = true) (hX : AtX X K mg := by exact ⟨rfl, rfl⟩) : CallR X (.builtin "all") (rAll K) := hX.1 ▸ cr_all hc
theorem x_ix (T : Tx K mg) (hX : AtX X K mg := by exact ⟨rfl, rfl⟩) : IxR X (rIx K) := hX.1 ▸ ix_seq
theorem x_fld (T : Tx K mg) (he : PE X e te) (hb : attributeBase e f X.env (eval e X.env) = eval e X.env) (hX : AtX X K mg := by exact ⟨rfl, rfl⟩) : PE X (.Attribute e f pos) (tFld K te f) := hX.1 ▸ pe_fld he hb
theorem x_any (T : Tx K mg) (he : PE X e te) (hX : AtX X K mg := by exact ⟨rfl, rfl⟩) : PI X tg e (iAny K te) := hX.1 ▸ pi_any he
end
/-! ### tactics: evaluate what stands there -/
local macro_rules | `(tactic| walk_at "dv sz") => `(tactic| first | assumption | exact cm_nn (by assumption) (by assumption) (by decide) | exact cm_nd (by assumption) (by assumption) (by decide) | exact cm_dn (by assumption) (by assumption) (by decide) | exact cm_dd (by assumption) (by assumption) (by decide) | decide | omega | (simp; done))
local macro_rules | `(tactic| walk_at "dv rop") => `(tactic| first
  | with_reducible exact d_add | with_reducible exact d_sub | with_reducible exact d_lt | with_reducible exact d_le | with_reducible exact d_gt | with_reducible exact d_ge
  | with_reducible exact d_eqI | with_reducible exact d_neI | with_reducible exact d_eqS | with_reducible exact d_neS | with_reducible exact d_eqB | with_reducible exact d_neB | with_reducible exact d_isB
  | ((with_reducible apply d_mul); walk_at "dv sz") | ((with_reducible apply d_fd); walk_at "dv sz") | ((with_reducible apply d_mod); walk_at "dv sz") | ((with_reducible apply d_pow); walk_at "dv sz")
  | ((with_reducible apply d_ixL); exact rfl) | ((with_reducible apply d_ixT); exact rfl)
  | ((with_reducible apply d_addL); walk_at "dv sz") | ((with_reducible apply d_addS); walk_at "dv sz"))
local macro_rules | `(tactic| walk_at "dv rcp") => `(tactic| first
  | with_reducible exact d_abs | with_reducible exact d_max | with_reducible exact d_min | with_reducible exact d_intI | with_reducible exact d_intB | with_reducible exact d_lenL | with_reducible exact d_lenT | with_reducible exact d_tupL | with_reducible exact d_tupT
  | ((with_reducible apply d_str); walk_at "dv sz") | ((with_reducible apply d_divmod); walk_at "dv sz"))
local macro_rules | `(tactic| walk_at "dv ea") => `(tactic| first
  | with_reducible exact ea_nil
  | ((with_reducible apply ea_cons); (walk_at "dv ev"); (walk_at "dv ea")))
local macro_rules | `(tactic| walk_at "dv et") => `(tactic| first
  | ((with_reducible apply et_not); walk_at "dv et")
  | ((with_reducible apply et_and); (walk_at "dv et"); (intro _; walk_at "dv et"))
  | ((with_reducible apply et_or); (walk_at "dv et"); (intro _; walk_at "dv et"))
  | ((with_reducible apply et_testD); walk_at "dv ev")
  | ((with_reducible apply et_BD); walk_at "dv ev"))
local macro_rules | `(tactic| walk_at "dv call") => `(tactic| fail "no call")
local macro_rules | `(tactic| walk_at "dv ev") => `(tactic| first
  | with_reducible exact ev_int | with_reducible exact ev_str | with_reducible exact ev_bl | with_reducible exact ev_non | with_reducible exact ev_obj
  | ((with_reducible apply a_var); exact rfl)
  | ((with_reducible apply ev_op); (walk_at "dv ev"); (walk_at "dv ev"); (walk_at "dv rop"))
  | ((with_reducible apply ev_un); (walk_at "dv ev"); with_reducible exact d_neg)
  | ((with_reducible apply a_tup); (walk_at "dv ea"); (walk_at "dv sz"))
  | ((with_reducible apply a_lst); (walk_at "dv ea"); (walk_at "dv sz"))
  | ((with_reducible apply v_ftop (by assumption)); walk_at "dv ev")
  | ((with_reducible apply v_fbot (by assumption)); walk_at "dv ev")
  | ((with_reducible apply ev_cb); (walk_at "dv ea"); (walk_at "dv rcp"))
  | ((with_reducible apply a_and); (walk_at "dv ev"); (intro _; walk_at "dv ev"))
  | ((with_reducible apply a_or); (walk_at "dv ev"); (intro _; walk_at "dv ev"))
  | ((with_reducible apply ev_notV); walk_at "dv ev")
  | walk_at "dv call")
/-! ### is_integer, is_list, digits_of, common_part -/
def isI : Num → Bool
  | .i _ => true
  | .r _ => false
def S_is_integer (K : PySem.W.Frag) : FS Num where
  arg n := [n.d K]
  res n d := d = .bl (isI n)
theorem f_is_integer {P : Program} {w : World} {K : PySem.W.Frag} {mg : PySem.Str → Option Value} {base : Heap} (T : Tx K mg) {fd : FuncData} (F : FunD K d_is_integer.name d_is_integer.qual d_is_integer.params d_is_integer.body d_is_integer.scope (d_is_integer.dvs K) (d_is_integer.kws K) (d_is_integer.at_ K) fd) : FnG P w K mg base CX0 1 (d_is_integer.at_ K) fd ["value"] ((S_is_integer K).sp K) := by
  have nd := sc_is_integer.nd
  refine fn_g F sc_is_integer (FS.len fun x => by first | rfl | (cases x <;> rfl) | (obtain ⟨_, x⟩ := x; cases x <;> rfl)) fun cdv A fr s H vs Q E hr h => ⟨_, PSs.nox (pss_one (ps_ret (pe_and (pe_callB (x_isi T) rfl (T.f_ "isinstance") PyProof.Rows.boot_isinstance (pa_cons (pv 0) (pa_cons (pe_bltn (v := .ty "int") rfl (T.f_ "int") PyProof.Rows.boot_int rfl) pa_nil))) (pe_one (pe_not (pe_callB (x_isi T) rfl (T.f_ "isinstance") PyProof.Rows.boot_isinstance (pa_cons (pv 0) (pa_cons (pe_bltn (v := .ty "bool") rfl (T.f_ "bool") PyProof.Rows.boot_bool rfl) pa_nil)))))))), FS.body h fun x W ok => ?_⟩
  try dsimp only [cxOf, Cx.nox, Cx.blk]
  cases x with
  | i n =>
    apply b_retD
    · apply a_and (p := true) (q := true)
      · exact ev_cb (ea_cons (a_var rfl) (ea_cons ev_obj ea_nil)) (d_isiT (d := .int n) trivial rfl)
      · intro _
        exact ev_notV (p := false) (ev_cb (ea_cons (a_var rfl) (ea_cons ev_obj ea_nil)) (d_isiT (d := .int n) trivial rfl))
    · rfl
  | r q =>
    apply b_retD
    · apply a_and (p := false) (q := true)
      · exact ev_cb (ea_cons (a_var rfl) (ea_cons ev_obj ea_nil)) (d_isiT (d := rat K q) T.isi T.ex1.ri)
      · intro e
        cases e
    · rfl
theorem g_is_integer {P : Program} {w : World} {K : PySem.W.Frag} {mg : PySem.Str → Option Value} {base : Heap} (T : Tx K mg) : CxG P w K mg base CX0 (He.ga K "is_integer") 1 1 [] ((S_is_integer K).sp K) idv := by
  obtain ⟨fd, F⟩ := T.c.def_ 0 (d := d_is_integer) rfl
  exact ⟨fd, _, _, f_is_integer T F, kb_plain F 1 [] (fun us _ => us) (fun a _ => a) fun _ _ _ _ _ _ us ws h1 h2 => match us, h1, ws, h2 with | [_], _, [], _ => rfl⟩
theorem k_is_integer {X : Cx} {K : PySem.W.Frag} {mg : PySem.Str → Option Value} {j : Nat} (T : Tx K mg) (hr : RoomG j X.A) (hj : 1 ≤ j := by decide) (hX : AtX X K mg := by exact ⟨rfl, rfl⟩) : CanG X (.ref (He.ga K "is_integer")) [] (rFn 1 0 ((S_is_integer K).sp K) idv E0) := by
  obtain ⟨rfl, rfl⟩ := hX
  exact can_cx (g_is_integer T) (hr.le hj) pass0
section
variable {c : Ct} {cs : Cells} {Δ : Sts} {tr : TA} {n : Int} {q : Rat}
theorem v_is_integer (m : Num) (h : EVL c cs Δ tr [m.d c.K]) : EVD c cs Δ (tG (rFn 1 0 ((S_is_integer c.K).sp c.K) idv E0) tr tNil) (.bl (isI m)) := ev_fs m h ea_nil gives_id trivial (.inr fun _ z => z)
end
/-- list or tuple -/
def S_is_list (K : PySem.W.Frag) : FS (Bool × List Dat) where
  arg x := [if x.1 then .lst x.2 else .tup x.2]
  res _ d := d = .bl true
theorem f_is_list {P : Program} {w : World} {K : PySem.W.Frag} {mg : PySem.Str → Option Value} {base : Heap} (T : Tx K mg) {fd : FuncData} (F : FunD K d_is_list.name d_is_list.qual d_is_list.params d_is_list.body d_is_list.scope (d_is_list.dvs K) (d_is_list.kws K) (d_is_list.at_ K) fd) : FnG P w K mg base CX0 1 (d_is_list.at_ K) fd ["value"] ((S_is_list K).sp K) := by
  have nd := sc_is_list.nd
  refine fn_g F sc_is_list (FS.len fun x => by first | rfl | (cases x <;> rfl) | (obtain ⟨_, x⟩ := x; cases x <;> rfl)) fun cdv A fr s H vs Q E hr h => ⟨_, PSs.nox (pss_one (ps_ret (pe_callB (x_isi T) rfl (T.f_ "isinstance") PyProof.Rows.boot_isinstance (pa_cons (pv 0) (pa_cons (pe_tup (pa_cons (pe_bltn (v := .ty "list") rfl (T.f_ "list") PyProof.Rows.boot_list rfl) (pa_cons (pe_bltn (v := .ty "tuple") rfl (T.f_ "tuple") PyProof.Rows.boot_tuple rfl) pa_nil))) pa_nil))))), FS.body h fun x W ok => ?_⟩
  try dsimp only [cxOf, Cx.nox, Cx.blk]
  obtain ⟨b, ds⟩ := x
  apply b_retD (d := .bl true)
  · cases b with
    | true => exact ev_isiT (ns := ["list", "tuple"]) (d := .lst ds) (a_var rfl) (ea_cons ev_obj (ea_cons ev_obj ea_nil)) (by decide) trivial rfl
    | false => exact ev_isiT (ns := ["list", "tuple"]) (d := .tup ds) (a_var rfl) (ea_cons ev_obj (ea_cons ev_obj ea_nil)) (by decide) trivial rfl
  · rfl
theorem g_is_list {P : Program} {w : World} {K : PySem.W.Frag} {mg : PySem.Str → Option Value} {base : Heap} (T : Tx K mg) : CxG P w K mg base CX0 (He.ga K "is_list") 1 1 [] ((S_is_list K).sp K) idv := by
  obtain ⟨fd, F⟩ := T.c.def_ 1 (d := d_is_list) rfl
  exact ⟨fd, _, _, f_is_list T F, kb_plain F 1 [] (fun us _ => us) (fun a _ => a) fun _ _ _ _ _ _ us ws h1 h2 => match us, h1, ws, h2 with | [_], _, [], _ => rfl⟩
theorem k_is_list {X : Cx} {K : PySem.W.Frag} {mg : PySem.Str → Option Value} {j : Nat} (T : Tx K mg) (hr : RoomG j X.A) (hj : 1 ≤ j := by decide) (hX : AtX X K mg := by exact ⟨rfl, rfl⟩) : CanG X (.ref (He.ga K "is_list")) [] (rFn 1 0 ((S_is_list K).sp K) idv E0) := by
  obtain ⟨rfl, rfl⟩ := hX
  exact can_cx (g_is_list T) (hr.le hj) pass0
def S_common_part (K : PySem.W.Frag) : FS (Int × Int) where
  arg x := [.int x.1, .int x.2]
  res x d := d = .int (x.1.gcd x.2 : Nat)
theorem natAbs_lt10 {n : Int} : 0 ≤ (n.natAbs : Int) := Int.natCast_nonneg _
theorem gcd_step {a b : Nat} (h : 0 < b) : (a : Int).fmod (b : Int) = ((a % b : Nat) : Int) := by
  rw [Int.fmod_eq_emod_of_nonneg _ (by omega)]
  rfl
theorem f_common_part {P : Program} {w : World} {K : PySem.W.Frag} {mg : PySem.Str → Option Value} {base : Heap} (T : Tx K mg) {fd : FuncData} (F : FunD K d_common_part.name d_common_part.qual d_common_part.params d_common_part.body d_common_part.scope (d_common_part.dvs K) (d_common_part.kws K) (d_common_part.at_ K) fd) : FnG P w K mg base CX0 1 (d_common_part.at_ K) fd ["one", "other"] ((S_common_part K).sp K) := by
  have nd := sc_common_part.nd
  refine fn_g F sc_common_part (FS.len fun x => by first | rfl | (cases x <;> rfl) | (obtain ⟨_, x⟩ := x; cases x <;> rfl)) fun cdv A fr s H vs Q E hr h => ⟨_, PSs.nox (pss_cons (ps_par (i := 0) (j := 1) rfl nd rfl rfl (by decide) rfl rfl (pa_cons (pe_callB k_abs rfl (T.f_ "abs") PyProof.Rows.boot_abs (pa_cons (pv 0) pa_nil)) (pa_cons (pe_callB k_abs rfl (T.f_ "abs") PyProof.Rows.boot_abs (pa_cons (pv 1) pa_nil)) pa_nil)) rfl)
      (pss_cons (ps_while PassesOwn.never (pt_cmpR o_gt (pv 1) pe_int (nomark _)) (pss_one (ps_par (i := 0) (j := 1) rfl nd rfl rfl (by decide) rfl rfl (pa_cons (pv 1) (pa_cons (pe_op o_mod (pe_callTy k_int rfl (T.f_ "int") PyProof.Rows.boot_int (pa_cons (pv 0) pa_nil)) (pv 1)) pa_nil)) rfl)))
      (pss_one (ps_ret (pv 0))))), FS.body h fun x W ok => ?_⟩
  try dsimp only [cxOf, Cx.nox, Cx.blk]
  obtain ⟨a, b⟩ := x
  refine at_ [some (.int a), some (.int b)] rfl ?_
  apply b_par
  · walk_at "dv ea"
  refine q_while (fun m cs Δ => ∃ x y : Nat, cs = [] ∧ Δ = [some (.int x), some (.int y)] ∧ x.gcd y = a.gcd b ∧ m = y) (fun cs Δ => cs = [] ∧ Δ = [some (.int (a.gcd b : Nat)), some (.int 0)]) b.natAbs ⟨a.natAbs, b.natAbs, rfl, rfl, rfl, rfl⟩ ?_ ?_
  · rintro m cs' Δ' ⟨x, y, rfl, rfl, hg, rfl⟩
    refine ⟨fun z => z = decide ((0 : Int) < m), ?_, fun e => ?_, fun e => ?_⟩
    · walk_at "dv et"
    · have hy : 0 < m := by simpa using e.symm
      have hz : (m : Int) ≠ 0 := by omega
      apply s_par
      · walk_at "dv ea"
      · refine ⟨x % m, Nat.mod_lt _ hy, m, x % m, rfl, ?_, ?_, rfl⟩
        · rw [gcd_step hy]; rfl
        · rw [Nat.gcd_comm, ← Nat.gcd_rec, Nat.gcd_comm]
          exact hg
    · have hy : m = 0 := by
        have : ¬ (0 : Int) < m := by simpa using e.symm
        omega
      subst hy
      rw [Nat.gcd_zero_right] at hg
      subst hg
      exact ⟨rfl, rfl⟩
  · rintro cs' Δ' ⟨rfl, rfl⟩
    apply b_retD
    · exact a_var rfl
    · rfl
theorem g_common_part {P : Program} {w : World} {K : PySem.W.Frag} {mg : PySem.Str → Option Value} {base : Heap} (T : Tx K mg) : CxG P w K mg base CX0 (He.ga K "common_part") 1 2 [] ((S_common_part K).sp K) idv := by
  obtain ⟨fd, F⟩ := T.c.def_ 3 (d := d_common_part) rfl
  exact ⟨fd, _, _, f_common_part T F, kb_plain F 2 [] (fun us _ => us) (fun a _ => a) fun _ _ _ _ _ _ us ws h1 h2 => match us, h1, ws, h2 with | [_, _], _, [], _ => rfl⟩
theorem k_common_part {X : Cx} {K : PySem.W.Frag} {mg : PySem.Str → Option Value} {j : Nat} (T : Tx K mg) (hr : RoomG j X.A) (hj : 1 ≤ j := by decide) (hX : AtX X K mg := by exact ⟨rfl, rfl⟩) : CanG X (.ref (He.ga K "common_part")) [] (rFn 2 0 ((S_common_part K).sp K) idv E0) := by
  obtain ⟨rfl, rfl⟩ := hX
  exact can_cx (g_common_part T) (hr.le hj) pass0
end DV

set_option Elab.async false
set_option autoImplicit false
set_option linter.all false
set_option maxRecDepth 100000
set_option maxHeartbeats 4000000
namespace DV
open PySem PySem.Spec PyProof.Rows L2
/-! ### tactics: evaluate what stands there -/
local macro_rules | `(tactic| walk_at "dv sz") => `(tactic| first | assumption | exact cm_nn (by assumption) (by assumption) (by decide) | exact cm_nd (by assumption) (by assumption) (by decide) | exact cm_dn (by assumption) (by assumption) (by decide) | exact cm_dd (by assumption) (by assumption) (by decide) | decide | omega | (simp; done))
local macro_rules | `(tactic| walk_at "dv rop") => `(tactic| first
  | with_reducible exact d_add | with_reducible exact d_sub | with_reducible exact d_lt | with_reducible exact d_le | with_reducible exact d_gt | with_reducible exact d_ge
  | with_reducible exact d_eqI | with_reducible exact d_neI | with_reducible exact d_eqS | with_reducible exact d_neS | with_reducible exact d_eqB | with_reducible exact d_neB | with_reducible exact d_isB
  | ((with_reducible apply d_mul); walk_at "dv sz") | ((with_reducible apply d_fd); walk_at "dv sz") | ((with_reducible apply d_mod); walk_at "dv sz") | ((with_reducible apply d_pow); walk_at "dv sz")
  | ((with_reducible apply d_ixL); exact rfl) | ((with_reducible apply d_ixT); exact rfl)
  | ((with_reducible apply d_addL); walk_at "dv sz") | ((with_reducible apply d_addS); walk_at "dv sz"))
local macro_rules | `(tactic| walk_at "dv rcp") => `(tactic| first
  | with_reducible exact d_abs | with_reducible exact d_max | with_reducible exact d_min | with_reducible exact d_intI | with_reducible exact d_intB | with_reducible exact d_lenL | with_reducible exact d_lenT | with_reducible exact d_tupL | with_reducible exact d_tupT
  | ((with_reducible apply d_str); walk_at "dv sz") | ((with_reducible apply d_divmod); walk_at "dv sz"))
local macro_rules | `(tactic| walk_at "dv ea") => `(tactic| first
  | with_reducible exact ea_nil
  | ((with_reducible apply ea_cons); (walk_at "dv ev"); (walk_at "dv ea")))
local macro_rules | `(tactic| walk_at "dv et") => `(tactic| first
  | ((with_reducible apply et_not); walk_at "dv et")
  | ((with_reducible apply et_and); (walk_at "dv et"); (intro _; walk_at "dv et"))
  | ((with_reducible apply et_or); (walk_at "dv et"); (intro _; walk_at "dv et"))
  | ((with_reducible apply et_testD); walk_at "dv ev")
  | ((with_reducible apply et_BD); walk_at "dv ev"))
local macro_rules | `(tactic| walk_at "dv call") => `(tactic| fail "no call")
local macro_rules | `(tactic| walk_at "dv ev") => `(tactic| first
  | with_reducible exact ev_int | with_reducible exact ev_str | with_reducible exact ev_bl | with_reducible exact ev_non | with_reducible exact ev_obj
  | ((with_reducible apply a_var); exact rfl)
  | ((with_reducible apply ev_op); (walk_at "dv ev"); (walk_at "dv ev"); (walk_at "dv rop"))
  | ((with_reducible apply ev_un); (walk_at "dv ev"); with_reducible exact d_neg)
  | ((with_reducible apply a_tup); (walk_at "dv ea"); (walk_at "dv sz"))
  | ((with_reducible apply a_lst); (walk_at "dv ea"); (walk_at "dv sz"))
  | ((with_reducible apply v_ftop (by assumption)); walk_at "dv ev")
  | ((with_reducible apply v_fbot (by assumption)); walk_at "dv ev")
  | ((with_reducible apply ev_cb); (walk_at "dv ea"); (walk_at "dv rcp"))
  | ((with_reducible apply a_and); (walk_at "dv ev"); (intro _; walk_at "dv ev"))
  | ((with_reducible apply a_or); (walk_at "dv ev"); (intro _; walk_at "dv ev"))
  | ((with_reducible apply ev_notV); walk_at "dv ev")
  | walk_at "dv call")
theorem v_common_part {c : Ct} {cs : Cells} {Δ : Sts} {tr : TA} {a b : Int} (h : EVL c cs Δ tr [.int a, .int b]) : EVD c cs Δ (tG (rFn 2 0 ((S_common_part c.K).sp c.K) idv E0) tr tNil) (.int (a.gcd b : Nat)) := ev_fs (a, b) h ea_nil gives_id trivial (.inr fun _ z => z)
theorem v_is_integer_i {c : Ct} {cs : Cells} {Δ : Sts} {tr : TA} {n : Int} (h : EVL c cs Δ tr [.int n]) : EVD c cs Δ (tG (rFn 1 0 ((S_is_integer c.K).sp c.K) idv E0) tr tNil) (.bl true) := v_is_integer (.i n) h
theorem v_is_integer_r {c : Ct} {cs : Cells} {Δ : Sts} {tr : TA} {q : Rat} (h : EVL c cs Δ tr [rat c.K q]) : EVD c cs Δ (tG (rFn 1 0 ((S_is_integer c.K).sp c.K) idv E0) tr tNil) (.bl false) := v_is_integer (.r q) h
local macro_rules | `(tactic| walk_at "dv call") => `(tactic| first
  | ((with_reducible apply v_common_part); walk_at "dv ea")
  | ((with_reducible apply v_is_integer_i); walk_at "dv ea")
  | ((with_reducible apply v_is_integer_r); walk_at "dv ea"))
/-! ### making ratios -/
def S_Ratio___init__ (K : PySem.W.Frag) : IS (Int × Int) where
  arg x := [.int x.1, .int x.2]
  ok _ x := x.2 ≠ 0 ∧ x.2.natAbs < 2 ^ 8000
  fs := ["own_top", "own_bottom"]
  res x es := es = [.int (Rat.divInt x.1 x.2).num, .int ((Rat.divInt x.1 x.2).den : Int)]
theorem gcd_ok {a b : Int} (h : b ≠ 0) (hb : b.natAbs < 2 ^ 8000) : CFd a (a.gcd b : Nat) := by
  have h0 : a.gcd b ≠ 0 := fun e => h (Int.gcd_eq_zero_iff.mp e).2
  have h1 : a.gcd b ≤ b.natAbs := Nat.le_of_dvd (by omega) (Nat.gcd_dvd_right _ _)
  refine ⟨by omega, ?_⟩
  rw [Int.natAbs_natCast]
  exact Nat.lt_trans (PySem.Flt.log2_lt_of (by decide) (Nat.lt_of_le_of_lt h1 hb)) (by decide)
theorem neg_ok {a j : Int} (h : CFd a j) : CFd a (0 - j) := ⟨by have := h.1; omega, by rw [show (0 - j).natAbs = j.natAbs by omega]; exact h.2⟩
theorem any_ok {a b j : Int} (h : CFd a j) : CFd b j := h
theorem f_Ratio___init__ {P : Program} {w : World} {K : PySem.W.Frag} {mg : PySem.Str → Option Value} {base : Heap} (T : Tx K mg) {fd : FuncData} (F : FunD K d_Ratio___init__.name d_Ratio___init__.qual d_Ratio___init__.params d_Ratio___init__.body d_Ratio___init__.scope (d_Ratio___init__.dvs K) (d_Ratio___init__.kws K) (d_Ratio___init__.at_ K) fd) : FnG P w K mg base CX0 2 (d_Ratio___init__.at_ K) fd ["self", "top", "bottom"] ((S_Ratio___init__ K).sp (cR K) K) := by
  have nd := sc_Ratio___init__.nd
  refine fn_g F sc_Ratio___init__ (IS.len fun x => by first | rfl | (cases x <;> rfl) | (obtain ⟨_, x⟩ := x; cases x <;> rfl)) fun cdv A fr s H vs Q E hr h => ⟨_, PSs.nox (pss_cons (ps_if (pt_not (pt_val (pe_g (ks := []) rfl (T.g_ "is_integer") (T.k_ "is_integer") (k_is_integer (j := 1) T hr) (pa_cons (pv 1) pa_nil) pk_nil))) (pss_one ps_never) pss_nil)
      (pss_cons (ps_if (PW.pt (pw_or (pt_not (pt_val (pe_g (ks := []) rfl (T.g_ "is_integer") (T.k_ "is_integer") (k_is_integer (j := 1) T hr) (pa_cons (pv 2) pa_nil) pk_nil))) (pw_or1 (pt_cmpR (x_eq (j := 1) T hr) (pv 2) pe_int (nomark _))))) (pss_one ps_never) pss_nil)
      (pss_cons (ps_set (i := 3) nd rfl (Or.inl rfl) (pe_g (ks := []) rfl (T.g_ "common_part") (T.k_ "common_part") (k_common_part (j := 1) T hr) (pa_cons (pv 1) (pa_cons (pv 2) pa_nil)) pk_nil))
      (pss_cons (ps_if (pt_cmpR o_lt (pv 2) pe_int (nomark _)) (pss_one (ps_set (i := 3) nd rfl (Or.inl rfl) (pe_op o_sub pe_int (pv 3)))) pss_nil)
      (pss_cons (ps_fld (pv 0) (pe_op o_fd (pv 1) (pv 3)) rfl)
      (pss_one (ps_fld (pv 0) (pe_op o_fd (pv 2) (pv 3)) rfl))))))), IS.body h fun x W p dx ok => ?_⟩
  try dsimp only [cxOf, Cx.nox, Cx.blk]
  obtain ⟨a, b⟩ := x
  obtain ⟨h0, hb⟩ := ok
  refine at_ [some (.obj (.ref p)), some (.int a), some (.int b), none] rfl ?_
  apply b_no
  · walk_at "dv et"
  · rfl
  apply b_no (p := decide (b = 0))
  · apply EVT.to
    · walk_at "dv et"
    · simp
  · simpa using h0
  apply b_asg
  · walk_at "dv ev"
  have hg : CFd a (a.gcd b : Nat) := gcd_ok h0 hb
  refine b_ifq (p := decide (b < 0)) (M := fun cs Δ => cs = [(p, .ins (cR K) dx [] [])] ∧ Δ = [some (.obj (.ref p)), some (.int a), some (.int b), some (.int (if b < 0 then 0 - (a.gcd b : Int) else (a.gcd b : Int)))]) ?_ (fun e => ?_) (fun e => ?_) ?_
  · walk_at "dv et"
  · have hn : b < 0 := of_decide_eq_true e
    apply s_asg
    · walk_at "dv ev"
    · rintro d rfl
      refine ⟨rfl, ?_⟩
      rw [if_pos hn]
      rfl
  · have hn : ¬ b < 0 := of_decide_eq_false e
    refine s_next ⟨rfl, rfl⟩ ?_
    rw [if_neg hn]
    exact Le.refl _
  rintro cs' Δ' ⟨rfl, rfl⟩
  have hj : CFd a (if b < 0 then 0 - (a.gcd b : Int) else (a.gcd b : Int)) := by
    split
    · exact neg_ok hg
    · exact hg
  have hk : CFd b (if b < 0 then 0 - (a.gcd b : Int) else (a.gcd b : Int)) := hj
  obtain ⟨e1, e2⟩ := low_num (a := a) h0
  generalize (if b < 0 then 0 - (a.gcd b : Int) else (a.gcd b : Int)) = j at hj hk e1 e2
  refine q_put (P := fun d => d = .int (a.fdiv j)) T.Ratio_cl T.nt rfl ?_ rfl (by decide) ?_
  · walk_at "dv ev"
  rintro d rfl
  refine s_put (P := fun d => d = .int (b.fdiv j)) T.Ratio_cl T.nb rfl ?_ (by decide +kernel) (by decide) ?_
  · walk_at "dv ev"
  rintro d rfl
  rw [e1, e2]
  exact ⟨_, rfl, rfl⟩
end DV

set_option Elab.async false
set_option autoImplicit false
set_option linter.all false
set_option maxRecDepth 100000
set_option maxHeartbeats 4000000
namespace DV
open PySem PySem.Spec PyProof.Rows L2
/-! ### tactics: evaluate what stands there -/
local macro_rules | `(tactic| walk_at "dv sz") => `(tactic| first | assumption | exact cm_nn (by assumption) (by assumption) (by decide) | exact cm_nd (by assumption) (by assumption) (by decide) | exact cm_dn (by assumption) (by assumption) (by decide) | exact cm_dd (by assumption) (by assumption) (by decide) | decide | omega | (simp; done))
local macro_rules | `(tactic| walk_at "dv rop") => `(tactic| first
  | with_reducible exact d_add | with_reducible exact d_sub | with_reducible exact d_lt | with_reducible exact d_le | with_reducible exact d_gt | with_reducible exact d_ge
  | with_reducible exact d_eqI | with_reducible exact d_neI | with_reducible exact d_eqS | with_reducible exact d_neS | with_reducible exact d_eqB | with_reducible exact d_neB | with_reducible exact d_isB
  | ((with_reducible apply d_mul); walk_at "dv sz") | ((with_reducible apply d_fd); walk_at "dv sz") | ((with_reducible apply d_mod); walk_at "dv sz") | ((with_reducible apply d_pow); walk_at "dv sz")
  | ((with_reducible apply d_ixL); exact rfl) | ((with_reducible apply d_ixT); exact rfl)
  | ((with_reducible apply d_addL); walk_at "dv sz") | ((with_reducible apply d_addS); walk_at "dv sz"))
local macro_rules | `(tactic| walk_at "dv rcp") => `(tactic| first
  | with_reducible exact d_abs | with_reducible exact d_max | with_reducible exact d_min | with_reducible exact d_intI | with_reducible exact d_intB | with_reducible exact d_lenL | with_reducible exact d_lenT | with_reducible exact d_tupL | with_reducible exact d_tupT
  | ((with_reducible apply d_str); walk_at "dv sz") | ((with_reducible apply d_divmod); walk_at "dv sz"))
local macro_rules | `(tactic| walk_at "dv ea") => `(tactic| first
  | with_reducible exact ea_nil
  | ((with_reducible apply ea_cons); (walk_at "dv ev"); (walk_at "dv ea")))
local macro_rules | `(tactic| walk_at "dv et") => `(tactic| first
  | ((with_reducible apply et_not); walk_at "dv et")
  | ((with_reducible apply et_and); (walk_at "dv et"); (intro _; walk_at "dv et"))
  | ((with_reducible apply et_or); (walk_at "dv et"); (intro _; walk_at "dv et"))
  | ((with_reducible apply et_testD); walk_at "dv ev")
  | ((with_reducible apply et_BD); walk_at "dv ev"))
local macro_rules | `(tactic| walk_at "dv call") => `(tactic| fail "no call")
local macro_rules | `(tactic| walk_at "dv ev") => `(tactic| first
  | with_reducible exact ev_int | with_reducible exact ev_str | with_reducible exact ev_bl | with_reducible exact ev_non | with_reducible exact ev_obj
  | ((with_reducible apply a_var); exact rfl)
  | ((with_reducible apply ev_op); (walk_at "dv ev"); (walk_at "dv ev"); (walk_at "dv rop"))
  | ((with_reducible apply ev_un); (walk_at "dv ev"); with_reducible exact d_neg)
  | ((with_reducible apply a_tup); (walk_at "dv ea"); (walk_at "dv sz"))
  | ((with_reducible apply a_lst); (walk_at "dv ea"); (walk_at "dv sz"))
  | ((with_reducible apply v_ftop (by assumption)); walk_at "dv ev")
  | ((with_reducible apply v_fbot (by assumption)); walk_at "dv ev")
  | ((with_reducible apply ev_cb); (walk_at "dv ea"); (walk_at "dv rcp"))
  | ((with_reducible apply a_and); (walk_at "dv ev"); (intro _; walk_at "dv ev"))
  | ((with_reducible apply a_or); (walk_at "dv ev"); (intro _; walk_at "dv ev"))
  | ((with_reducible apply ev_notV); walk_at "dv ev")
  | walk_at "dv call")
local macro_rules | `(tactic| walk_at "dv call") => `(tactic| first
  | ((with_reducible apply v_common_part); walk_at "dv ea")
  | ((with_reducible apply v_is_integer_i); walk_at "dv ea")
  | ((with_reducible apply v_is_integer_r); walk_at "dv ea"))
theorem mk_Ratio_2 {X : Cx} {K : PySem.W.Frag} {mg : PySem.Str → Option Value} {j : Nat} (T : Tx K mg) (hr : RoomG j X.A) (hj : 3 ≤ j := by decide) (hX : AtX X K mg := by exact ⟨rfl, rfl⟩) : CanG X (.ref (cR K)) [] (rMk (cR K) 2 0 ((S_Ratio___init__ K).sp (cR K) K) idv E0) := by
  obtain ⟨rfl, rfl⟩ := hX
  obtain ⟨fd, F⟩ := T.c.def_ 4 (d := d_Ratio___init__) rfl
  obtain ⟨its, kb⟩ := kb_dfl F 3 [] (fun us _ _ => us) (ps := ["self", "top", "bottom"]) (by simp [He5.DefA.dvs, d_Ratio___init__]) (fun a _ _ => a) fun _ _ _ _ _ _ _ us its ws h1 h2 h3 => match us, h1, its, h2, ws, h3 with | [_, _, _], _, [_], _, [], _ => ⟨_, rfl, rfl⟩
  exact can_make T.Ratio_mk (f_Ratio___init__ T F) (hr.le hj) kb pass0
theorem mk_Ratio_1 {X : Cx} {K : PySem.W.Frag} {mg : PySem.Str → Option Value} {j : Nat} (T : Tx K mg) (hr : RoomG j X.A) (hj : 3 ≤ j := by decide) (hX : AtX X K mg := by exact ⟨rfl, rfl⟩) : CanG X (.ref (cR K)) [] (rMk (cR K) 1 0 ((S_Ratio___init__ K).sp (cR K) K) (fun vs _ => vs ++ [.int 1]) E0) := by
  obtain ⟨rfl, rfl⟩ := hX
  obtain ⟨fd, F⟩ := T.c.def_ 4 (d := d_Ratio___init__) rfl
  obtain ⟨its, kb⟩ := kb_dfl F 2 [] (fun us its _ => us ++ its) (ps := ["self", "top", "bottom"]) (by simp [He5.DefA.dvs, d_Ratio___init__]) (fun a b _ => a.append b) fun _ _ _ _ _ _ _ us its ws h1 h2 h3 => match us, h1, its, h2, ws, h3 with | [_, _], _, [_], _, [], _ => ⟨_, rfl, rfl⟩
  exact can_make T.Ratio_mk (f_Ratio___init__ T F) (hr.le hj) kb pass0
theorem mk_Ratio_0_bottom_top {X : Cx} {K : PySem.W.Frag} {mg : PySem.Str → Option Value} {j : Nat} (T : Tx K mg) (hr : RoomG j X.A) (hj : 3 ≤ j := by decide) (hX : AtX X K mg := by exact ⟨rfl, rfl⟩) : CanG X (.ref (cR K)) ["bottom", "top"] (rMk (cR K) 0 2 ((S_Ratio___init__ K).sp (cR K) K) (fun vs zs => vs ++ zs.reverse) E0) := by
  obtain ⟨rfl, rfl⟩ := hX
  obtain ⟨fd, F⟩ := T.c.def_ 4 (d := d_Ratio___init__) rfl
  obtain ⟨its, kb⟩ := kb_dfl F 1 ["bottom", "top"] (fun us _ ws => us ++ ws.reverse) (ps := ["self", "top", "bottom"]) (by simp [He5.DefA.dvs, d_Ratio___init__]) (fun a _ b => a.append (Vals.rev b)) fun _ _ _ _ _ _ _ us its ws h1 h2 h3 => match us, h1, its, h2, ws, h3 with | [_], _, [_], _, [_, _], _ => ⟨_, rfl, rfl⟩
  exact can_make T.Ratio_mk (f_Ratio___init__ T F) (hr.le hj) kb pass0
section
variable {c : Ct} {cs : Cells} {Δ : Sts} {tr tk : TA} {a b : Int}
theorem v_mk2 (h : EVL c cs Δ tr [.int a, .int b]) (h0 : b ≠ 0) (hb : b.natAbs < 2 ^ 8000) : EVD c cs Δ (tG (rMk (cR c.K) 2 0 ((S_Ratio___init__ c.K).sp (cR c.K) c.K) idv E0) tr tNil) (rat c.K (Rat.divInt a b)) :=
  (ev_is (SI := S_Ratio___init__ c.K) (a, b) h ea_nil givesI_id ⟨h0, hb⟩ (.inr fun _ z => z)).imp fun d ⟨xs, e, e2⟩ => by subst e2; exact e
theorem v_mk1 (h : EVL c cs Δ tr [.int a]) : EVD c cs Δ (tG (rMk (cR c.K) 1 0 ((S_Ratio___init__ c.K).sp (cR c.K) c.K) (fun vs _ => vs ++ [.int 1]) E0) tr tNil) (rat c.K (a : Rat)) :=
  (ev_is (SI := S_Ratio___init__ c.K) (a, 1) h ea_nil (givesI_dfl (dds := [.int 1]) fun G => ⟨_, _, rfl, rfl, rfl⟩) ⟨(by show (1 : Int) ≠ 0; decide), Nat.one_lt_two_pow (by decide)⟩ (.inr fun _ z => z)).imp fun d ⟨xs, e, e2⟩ => by
    subst e2
    rw [e, fr_one]
    rfl
theorem v_mkK (h : EVL c cs Δ tk [.int b, .int a]) (h0 : b ≠ 0) (hb : b.natAbs < 2 ^ 8000) : EVD c cs Δ (tG (rMk (cR c.K) 0 2 ((S_Ratio___init__ c.K).sp (cR c.K) c.K) (fun vs zs => vs ++ zs.reverse) E0) tNil tk) (rat c.K (Rat.divInt a b)) :=
  (ev_is (SI := S_Ratio___init__ c.K) (a, b) ea_nil h (fun G x vs zs r r2 => ⟨zs.reverse, by rw [Reps.nil_iff r]; rfl, Reps.rev r2⟩) ⟨h0, hb⟩ (.inr fun _ z => z)).imp fun d ⟨xs, e, e2⟩ => by subst e2; exact e
end
/-! ### told_pair -/
def S_told_pair (K : PySem.W.Frag) : FS Num where
  arg n := [n.d K]
  res n d := d = pr n.v
theorem pr_int (n : Int) : pr (n : Rat) = .tup [.int n, .int 1] := by
  unfold pr
  rw [Rat.num_intCast, Rat.den_intCast]
  rfl
theorem f_told_pair {P : Program} {w : World} {K : PySem.W.Frag} {mg : PySem.Str → Option Value} {base : Heap} (T : Tx K mg) {fd : FuncData} (F : FunD K d_told_pair.name d_told_pair.qual d_told_pair.params d_told_pair.body d_told_pair.scope (d_told_pair.dvs K) (d_told_pair.kws K) (d_told_pair.at_ K) fd) : FnG P w K mg base CX0 2 (d_told_pair.at_ K) fd ["value"] ((S_told_pair K).sp K) := by
  have nd := sc_told_pair.nd
  refine fn_g F sc_told_pair (FS.len fun x => by first | rfl | (cases x <;> rfl) | (obtain ⟨_, x⟩ := x; cases x <;> rfl)) fun cdv A fr s H vs Q E hr h => ⟨_, PSs.nox (pss_cons (ps_if (pt_val (pe_callB (x_isi T) rfl (T.f_ "isinstance") PyProof.Rows.boot_isinstance (pa_cons (pv 0) (pa_cons (pe_glob (v := .ref _) rfl (T.g_ "Ratio") rfl) pa_nil)))) (pss_one (ps_ret (pe_tup (pa_cons (x_fld T (pv 0) rfl) (pa_cons (x_fld T (pv 0) rfl) pa_nil))))) pss_nil)
      (pss_cons (ps_if (pt_not (pt_val (pe_g (ks := []) rfl (T.g_ "is_integer") (T.k_ "is_integer") (k_is_integer (j := 1) T hr) (pa_cons (pv 0) pa_nil) pk_nil))) (pss_one ps_never) pss_nil)
      (pss_one (ps_ret (pe_tup (pa_cons (pv 0) (pa_cons pe_int pa_nil))))))), FS.body h fun x W ok => ?_⟩
  try dsimp only [cxOf, Cx.nox, Cx.blk]
  cases x with
  | i n =>
    refine at_ [some (.int n)] rfl ?_
    apply b_no
    · apply et_BD
      exact ev_cb (ea_cons (a_var rfl) (ea_cons ev_obj ea_nil)) (d_isiC (d := .int n) trivial T.ex1.ir)
    · rfl
    apply b_no
    · walk_at "dv et"
    · rfl
    apply b_retD
    · walk_at "dv ev"
    · exact (pr_int n).symm
  | r q =>
    refine at_ [some (rat K q)] rfl ?_
    apply b_when
    · apply et_BD
      exact ev_cb (ea_cons (a_var rfl) (ea_cons ev_obj ea_nil)) (d_isiC (d := rat K q) T.isi T.rr)
    · intro _
      apply b_retD
      · walk_at "dv ev"
      · rfl
    · intro e
      cases e
theorem g_told_pair {P : Program} {w : World} {K : PySem.W.Frag} {mg : PySem.Str → Option Value} {base : Heap} (T : Tx K mg) : CxG P w K mg base CX0 (He.ga K "told_pair") 2 1 [] ((S_told_pair K).sp K) idv := by
  obtain ⟨fd, F⟩ := T.c.def_ 24 (d := d_told_pair) rfl
  exact ⟨fd, _, _, f_told_pair T F, kb_plain F 1 [] (fun us _ => us) (fun a _ => a) fun _ _ _ _ _ _ us ws h1 h2 => match us, h1, ws, h2 with | [_], _, [], _ => rfl⟩
theorem k_told_pair {X : Cx} {K : PySem.W.Frag} {mg : PySem.Str → Option Value} {j : Nat} (T : Tx K mg) (hr : RoomG j X.A) (hj : 2 ≤ j := by decide) (hX : AtX X K mg := by exact ⟨rfl, rfl⟩) : CanG X (.ref (He.ga K "told_pair")) [] (rFn 1 0 ((S_told_pair K).sp K) idv E0) := by
  obtain ⟨rfl, rfl⟩ := hX
  exact can_cx (g_told_pair T) (hr.le hj) pass0
section
variable {c : Ct} {cs : Cells} {Δ : Sts} {tr : TA} {n : Int} {q : Rat}
theorem v_told_i (h : EVL c cs Δ tr [.int n]) : EVD c cs Δ (tG (rFn 1 0 ((S_told_pair c.K).sp c.K) idv E0) tr tNil) (pr (n : Rat)) := ev_fs (Num.i n) h ea_nil gives_id trivial (.inr fun _ z => z)
theorem v_told_r (h : EVL c cs Δ tr [rat c.K q]) : EVD c cs Δ (tG (rFn 1 0 ((S_told_pair c.K).sp c.K) idv E0) tr tNil) (pr q) := ev_fs (Num.r q) h ea_nil gives_id trivial (.inr fun _ z => z)
theorem v_told (m : Num) (h : EVL c cs Δ tr [m.d c.K]) : EVD c cs Δ (tG (rFn 1 0 ((S_told_pair c.K).sp c.K) idv E0) tr tNil) (pr m.v) := ev_fs m h ea_nil gives_id trivial (.inr fun _ z => z)
end
/-! ### properties -/
def S_prop (f : Rat → Dat) (K : PySem.W.Frag) : FS Rat where
  arg q := [rat K q]
  res q d := d = f q
abbrev S_Ratio_top := S_prop fun q => .int q.num
abbrev S_Ratio_bottom := S_prop fun q => .int (q.den : Int)
abbrev S_Ratio_sign := S_prop fun q => .int ((if decide ((0 : Int) < q.num) then 1 else 0) - (if decide (q.num < 0) then 1 else 0))
abbrev S_Ratio_is_whole := S_prop fun q => .bl (decide ((q.den : Int) = 1))
theorem f_Ratio_top {P : Program} {w : World} {K : PySem.W.Frag} {mg : PySem.Str → Option Value} {base : Heap} (T : Tx K mg) {fd : FuncData} (F : FunD K d_Ratio_top.name d_Ratio_top.qual d_Ratio_top.params d_Ratio_top.body d_Ratio_top.scope (d_Ratio_top.dvs K) (d_Ratio_top.kws K) (d_Ratio_top.at_ K) fd) : FnG P w K mg base CX0 1 (d_Ratio_top.at_ K) fd ["self"] ((S_Ratio_top K).sp K) := by
  have nd := sc_Ratio_top.nd
  refine fn_g F sc_Ratio_top (FS.len fun x => by first | rfl | (cases x <;> rfl) | (obtain ⟨_, x⟩ := x; cases x <;> rfl)) fun cdv A fr s H vs Q E hr h => ⟨_, PSs.nox (pss_one (ps_ret (x_fld T (pv 0) rfl))), FS.body h fun x W ok => ?_⟩
  try dsimp only [cxOf, Cx.nox, Cx.blk]
  refine at_ [some (rat K x)] rfl ?_
  apply b_retD
  · walk_at "dv ev"
  · rfl
theorem f_Ratio_bottom {P : Program} {w : World} {K : PySem.W.Frag} {mg : PySem.Str → Option Value} {base : Heap} (T : Tx K mg) {fd : FuncData} (F : FunD K d_Ratio_bottom.name d_Ratio_bottom.qual d_Ratio_bottom.params d_Ratio_bottom.body d_Ratio_bottom.scope (d_Ratio_bottom.dvs K) (d_Ratio_bottom.kws K) (d_Ratio_bottom.at_ K) fd) : FnG P w K mg base CX0 1 (d_Ratio_bottom.at_ K) fd ["self"] ((S_Ratio_bottom K).sp K) := by
  have nd := sc_Ratio_bottom.nd
  refine fn_g F sc_Ratio_bottom (FS.len fun x => by first | rfl | (cases x <;> rfl) | (obtain ⟨_, x⟩ := x; cases x <;> rfl)) fun cdv A fr s H vs Q E hr h => ⟨_, PSs.nox (pss_one (ps_ret (x_fld T (pv 0) rfl))), FS.body h fun x W ok => ?_⟩
  try dsimp only [cxOf, Cx.nox, Cx.blk]
  refine at_ [some (rat K x)] rfl ?_
  apply b_retD
  · walk_at "dv ev"
  · rfl
theorem f_Ratio_sign {P : Program} {w : World} {K : PySem.W.Frag} {mg : PySem.Str → Option Value} {base : Heap} (T : Tx K mg) {fd : FuncData} (F : FunD K d_Ratio_sign.name d_Ratio_sign.qual d_Ratio_sign.params d_Ratio_sign.body d_Ratio_sign.scope (d_Ratio_sign.dvs K) (d_Ratio_sign.kws K) (d_Ratio_sign.at_ K) fd) : FnG P w K mg base CX0 1 (d_Ratio_sign.at_ K) fd ["self"] ((S_Ratio_sign K).sp K) := by
  have nd := sc_Ratio_sign.nd
  refine fn_g F sc_Ratio_sign (FS.len fun x => by first | rfl | (cases x <;> rfl) | (obtain ⟨_, x⟩ := x; cases x <;> rfl)) fun cdv A fr s H vs Q E hr h => ⟨_, PSs.nox (pss_one (ps_ret (pe_op o_sub (pe_callTy k_int rfl (T.f_ "int") PyProof.Rows.boot_int (pa_cons (pe_cmpR o_gt (x_fld T (pv 0) rfl) pe_int (nomark _)) pa_nil)) (pe_callTy k_int rfl (T.f_ "int") PyProof.Rows.boot_int (pa_cons (pe_cmpR o_lt (x_fld T (pv 0) rfl) pe_int (nomark _)) pa_nil))))), FS.body h fun x W ok => ?_⟩
  try dsimp only [cxOf, Cx.nox, Cx.blk]
  refine at_ [some (rat K x)] rfl ?_
  apply b_retD
  · walk_at "dv ev"
  · rfl
theorem f_Ratio_is_whole {P : Program} {w : World} {K : PySem.W.Frag} {mg : PySem.Str → Option Value} {base : Heap} (T : Tx K mg) {fd : FuncData} (F : FunD K d_Ratio_is_whole.name d_Ratio_is_whole.qual d_Ratio_is_whole.params d_Ratio_is_whole.body d_Ratio_is_whole.scope (d_Ratio_is_whole.dvs K) (d_Ratio_is_whole.kws K) (d_Ratio_is_whole.at_ K) fd) : FnG P w K mg base CX0 1 (d_Ratio_is_whole.at_ K) fd ["self"] ((S_Ratio_is_whole K).sp K) := by
  have nd := sc_Ratio_is_whole.nd
  refine fn_g F sc_Ratio_is_whole (FS.len fun x => by first | rfl | (cases x <;> rfl) | (obtain ⟨_, x⟩ := x; cases x <;> rfl)) fun cdv A fr s H vs Q E hr h => ⟨_, PSs.nox (pss_one (ps_ret (pe_cmpR (x_eq (j := 0) T hr) (x_fld T (pv 0) rfl) pe_int (nomark _)))), FS.body h fun x W ok => ?_⟩
  try dsimp only [cxOf, Cx.nox, Cx.blk]
  refine at_ [some (rat K x)] rfl ?_
  apply b_retD
  · walk_at "dv ev"
  · rfl
end DV

set_option Elab.async false
set_option autoImplicit false
set_option linter.all false
set_option maxRecDepth 100000
set_option maxHeartbeats 4000000
namespace DV
open PySem PySem.Spec PyProof.Rows L2
/-! ### tactics: evaluate what stands there -/
local macro_rules | `(tactic| walk_at "dv sz") => `(tactic| first | assumption | exact cm_nn (by assumption) (by assumption) (by decide) | exact cm_nd (by assumption) (by assumption) (by decide) | exact cm_dn (by assumption) (by assumption) (by decide) | exact cm_dd (by assumption) (by assumption) (by decide) | decide | omega | (simp; done))
local macro_rules | `(tactic| walk_at "dv rop") => `(tactic| first
  | with_reducible exact d_add | with_reducible exact d_sub | with_reducible exact d_lt | with_reducible exact d_le | with_reducible exact d_gt | with_reducible exact d_ge
  | with_reducible exact d_eqI | with_reducible exact d_neI | with_reducible exact d_eqS | with_reducible exact d_neS | with_reducible exact d_eqB | with_reducible exact d_neB | with_reducible exact d_isB
  | ((with_reducible apply d_mul); walk_at "dv sz") | ((with_reducible apply d_fd); walk_at "dv sz") | ((with_reducible apply d_mod); walk_at "dv sz") | ((with_reducible apply d_pow); walk_at "dv sz")
  | ((with_reducible apply d_ixL); exact rfl) | ((with_reducible apply d_ixT); exact rfl)
  | ((with_reducible apply d_addL); walk_at "dv sz") | ((with_reducible apply d_addS); walk_at "dv sz"))
local macro_rules | `(tactic| walk_at "dv rcp") => `(tactic| first
  | with_reducible exact d_abs | with_reducible exact d_max | with_reducible exact d_min | with_reducible exact d_intI | with_reducible exact d_intB | with_reducible exact d_lenL | with_reducible exact d_lenT | with_reducible exact d_tupL | with_reducible exact d_tupT
  | ((with_reducible apply d_str); walk_at "dv sz") | ((with_reducible apply d_divmod); walk_at "dv sz"))
local macro_rules | `(tactic| walk_at "dv ea") => `(tactic| first
  | with_reducible exact ea_nil
  | ((with_reducible apply ea_cons); (walk_at "dv ev"); (walk_at "dv ea")))
local macro_rules | `(tactic| walk_at "dv et") => `(tactic| first
  | ((with_reducible apply et_not); walk_at "dv et")
  | ((with_reducible apply et_and); (walk_at "dv et"); (intro _; walk_at "dv et"))
  | ((with_reducible apply et_or); (walk_at "dv et"); (intro _; walk_at "dv et"))
  | ((with_reducible apply et_testD); walk_at "dv ev")
  | ((with_reducible apply et_BD); walk_at "dv ev"))
local macro_rules | `(tactic| walk_at "dv call") => `(tactic| fail "no call")
local macro_rules | `(tactic| walk_at "dv ev") => `(tactic| first
  | with_reducible exact ev_int | with_reducible exact ev_str | with_reducible exact ev_bl | with_reducible exact ev_non | with_reducible exact ev_obj
  | ((with_reducible apply a_var); exact rfl)
  | ((with_reducible apply ev_op); (walk_at "dv ev"); (walk_at "dv ev"); (walk_at "dv rop"))
  | ((with_reducible apply ev_un); (walk_at "dv ev"); with_reducible exact d_neg)
  | ((with_reducible apply a_tup); (walk_at "dv ea"); (walk_at "dv sz"))
  | ((with_reducible apply a_lst); (walk_at "dv ea"); (walk_at "dv sz"))
  | ((with_reducible apply v_ftop (by assumption)); walk_at "dv ev")
  | ((with_reducible apply v_fbot (by assumption)); walk_at "dv ev")
  | ((with_reducible apply ev_cb); (walk_at "dv ea"); (walk_at "dv rcp"))
  | ((with_reducible apply a_and); (walk_at "dv ev"); (intro _; walk_at "dv ev"))
  | ((with_reducible apply a_or); (walk_at "dv ev"); (intro _; walk_at "dv ev"))
  | ((with_reducible apply ev_notV); walk_at "dv ev")
  | walk_at "dv call")
section
variable {c : Ct} {cs : Cells} {Δ : Sts} {te : TE} {q : Rat}
theorem v_prop {f : Rat → Dat} (h : EVD c cs Δ te (rat c.K q)) : EVD c cs Δ (tPropG (cR c.K) ((S_prop f c.K).sp c.K) E0 te) (f q) := ev_fsP (S := S_prop f c.K) q h rfl trivial (.inr fun _ z => z)
end
section
variable {X : Cx} {j : Nat} {e : Expr} {to : TE} {pos : Pos}
theorem p_Ratio_top {K : PySem.W.Frag} {mg : PySem.Str → Option Value} (T : Tx K mg) (hr : RoomG j X.A) (he : PE X e to) (hj : 2 ≤ j := by decide) (hX : AtX X K mg := by exact ⟨rfl, rfl⟩) (hab : attributeBase e "top" X.env (eval e X.env) = eval e X.env := by rfl) : PE X (.Attribute e "top" pos) (tPropG (cR K) ((S_Ratio_top K).sp K) E0 to) := by
  obtain ⟨rfl, rfl⟩ := hX
  obtain ⟨fd, F⟩ := T.c.def_ 5 (d := d_Ratio_top) rfl
  exact pe_propG he T.Ratio_cl (propB_ok (T.ex1.pr "top" (by decide))) (f_Ratio_top T F) (hr.le hj) (kb_plain F 1 [] (fun us _ => us) (fun a _ => a) fun _ _ _ _ _ _ us ws h1 h2 => match us, h1, ws, h2 with | [_], _, [], _ => rfl) (fun _ => rfl) pass0 hab
theorem p_Ratio_bottom {K : PySem.W.Frag} {mg : PySem.Str → Option Value} (T : Tx K mg) (hr : RoomG j X.A) (he : PE X e to) (hj : 2 ≤ j := by decide) (hX : AtX X K mg := by exact ⟨rfl, rfl⟩) (hab : attributeBase e "bottom" X.env (eval e X.env) = eval e X.env := by rfl) : PE X (.Attribute e "bottom" pos) (tPropG (cR K) ((S_Ratio_bottom K).sp K) E0 to) := by
  obtain ⟨rfl, rfl⟩ := hX
  obtain ⟨fd, F⟩ := T.c.def_ 6 (d := d_Ratio_bottom) rfl
  exact pe_propG he T.Ratio_cl (propB_ok (T.ex1.pr "bottom" (by decide))) (f_Ratio_bottom T F) (hr.le hj) (kb_plain F 1 [] (fun us _ => us) (fun a _ => a) fun _ _ _ _ _ _ us ws h1 h2 => match us, h1, ws, h2 with | [_], _, [], _ => rfl) (fun _ => rfl) pass0 hab
theorem p_Ratio_sign {K : PySem.W.Frag} {mg : PySem.Str → Option Value} (T : Tx K mg) (hr : RoomG j X.A) (he : PE X e to) (hj : 2 ≤ j := by decide) (hX : AtX X K mg := by exact ⟨rfl, rfl⟩) (hab : attributeBase e "sign" X.env (eval e X.env) = eval e X.env := by rfl) : PE X (.Attribute e "sign" pos) (tPropG (cR K) ((S_Ratio_sign K).sp K) E0 to) := by
  obtain ⟨rfl, rfl⟩ := hX
  obtain ⟨fd, F⟩ := T.c.def_ 7 (d := d_Ratio_sign) rfl
  exact pe_propG he T.Ratio_cl (propB_ok (T.ex1.pr "sign" (by decide))) (f_Ratio_sign T F) (hr.le hj) (kb_plain F 1 [] (fun us _ => us) (fun a _ => a) fun _ _ _ _ _ _ us ws h1 h2 => match us, h1, ws, h2 with | [_], _, [], _ => rfl) (fun _ => rfl) pass0 hab
theorem p_Ratio_is_whole {K : PySem.W.Frag} {mg : PySem.Str → Option Value} (T : Tx K mg) (hr : RoomG j X.A) (he : PE X e to) (hj : 2 ≤ j := by decide) (hX : AtX X K mg := by exact ⟨rfl, rfl⟩) (hab : attributeBase e "is_whole" X.env (eval e X.env) = eval e X.env := by rfl) : PE X (.Attribute e "is_whole" pos) (tPropG (cR K) ((S_Ratio_is_whole K).sp K) E0 to) := by
  obtain ⟨rfl, rfl⟩ := hX
  obtain ⟨fd, F⟩ := T.c.def_ 8 (d := d_Ratio_is_whole) rfl
  exact pe_propG he T.Ratio_cl (propB_ok (T.ex1.pr "is_whole" (by decide))) (f_Ratio_is_whole T F) (hr.le hj) (kb_plain F 1 [] (fun us _ => us) (fun a _ => a) fun _ _ _ _ _ _ us ws h1 h2 => match us, h1, ws, h2 with | [_], _, [], _ => rfl) (fun _ => rfl) pass0 hab
end
/-! ### operators -/
local macro_rules | `(tactic| walk_at "dv call") => `(tactic| first
  | ((with_reducible apply v_told); walk_at "dv ea"))
def S_bin (f : Rat → Rat → Rat) (K : PySem.W.Frag) : FS (Rat × Num) where
  arg x := [rat K x.1, x.2.d K]
  ok _ x := Bd 3500 x.1 ∧ Bd 3500 x.2.v
  res x d := d = rat K (f x.1 x.2.v)
abbrev S_Ratio___add__ := S_bin (· + ·)
abbrev S_Ratio___radd__ := S_bin fun q r => r + q
abbrev S_Ratio___sub__ := S_bin (· - ·)
abbrev S_Ratio___rsub__ := S_bin fun q r => r - q
abbrev S_Ratio___mul__ := S_bin (· * ·)
abbrev S_Ratio___rmul__ := S_bin fun q r => r * q
theorem den_lt {q r : Rat} (h : Bd 3500 q) (h' : Bd 3500 r) : ((q.den : Int) * (r.den : Int)).natAbs < 2 ^ 8000 := Nat.lt_trans (mul_ltI (a := 3500) (b := 3500) (by simpa using h.2) (by simpa using h'.2)) (Nat.pow_lt_pow_right (by decide) (by decide))
theorem den_ltN {q r : Rat} (h : Bd 3500 q) (h' : Bd 3500 r) : ((q.den : Int) * r.num).natAbs < 2 ^ 8000 := Nat.lt_trans (mul_ltI (a := 3500) (b := 3500) (by simpa using h.2) h'.1) (Nat.pow_lt_pow_right (by decide) (by decide))
theorem f_Ratio___add__ {P : Program} {w : World} {K : PySem.W.Frag} {mg : PySem.Str → Option Value} {base : Heap} (T : Tx K mg) {fd : FuncData} (F : FunD K d_Ratio___add__.name d_Ratio___add__.qual d_Ratio___add__.params d_Ratio___add__.body d_Ratio___add__.scope (d_Ratio___add__.dvs K) (d_Ratio___add__.kws K) (d_Ratio___add__.at_ K) fd) : FnG P w K mg base CX0 4 (d_Ratio___add__.at_ K) fd ["self", "other"] ((S_Ratio___add__ K).sp K) := by
  have nd := sc_Ratio___add__.nd
  refine fn_g F sc_Ratio___add__ (FS.len fun x => by first | rfl | (cases x <;> rfl) | (obtain ⟨_, x⟩ := x; cases x <;> rfl)) fun cdv A fr s H vs Q E hr h => ⟨_, PSs.nox (pss_cons (ps_asg (pe_g (ks := []) rfl (T.g_ "told_pair") (T.k_ "told_pair") (k_told_pair (j := 3) T hr) (pa_cons (pv 1) pa_nil) pk_nil) (pg_tup rfl (pgs_cons (pg_name (i := 2) nd rfl (Or.inl rfl)) (pgs_cons (pg_name (i := 3) nd rfl (Or.inl rfl)) pgs_nil))))
      (pss_one (ps_ret (pe_g (ks := []) rfl (T.g_ "Ratio") (T.k_ "Ratio") (mk_Ratio_2 (j := 3) T hr) (pa_cons (pe_op (x_add T) (pe_op o_mul (x_fld T (pv 0) rfl) (pv 3)) (pe_op o_mul (pv 2) (x_fld T (pv 0) rfl))) (pa_cons (pe_op o_mul (x_fld T (pv 0) rfl) (pv 3)) pa_nil)) pk_nil)))), FS.body h fun x W ok => ?_⟩
  try dsimp only [cxOf, Cx.nox, Cx.blk]
  obtain ⟨q, m⟩ := x
  obtain ⟨hq, hm⟩ := ok
  refine at_ [some (rat K q), some (m.d K), none, none] rfl ?_
  apply b_two (a := .int m.v.num) (b := .int (m.v.den : Int))
  · exact v_told m (ea_cons (a_var rfl) ea_nil)
  apply b_retD
  · apply v_mk2
    · walk_at "dv ea"
    · exact mul_ne (den_ne _) (den_ne _)
    · exact den_lt hq hm
  · show rat K _ = rat K (q + m.v)
    rw [add_fr]
theorem f_Ratio___radd__ {P : Program} {w : World} {K : PySem.W.Frag} {mg : PySem.Str → Option Value} {base : Heap} (T : Tx K mg) {fd : FuncData} (F : FunD K d_Ratio___radd__.name d_Ratio___radd__.qual d_Ratio___radd__.params d_Ratio___radd__.body d_Ratio___radd__.scope (d_Ratio___radd__.dvs K) (d_Ratio___radd__.kws K) (d_Ratio___radd__.at_ K) fd) : FnG P w K mg base CX0 4 (d_Ratio___radd__.at_ K) fd ["self", "other"] ((S_Ratio___radd__ K).sp K) := by
  have nd := sc_Ratio___radd__.nd
  refine fn_g F sc_Ratio___radd__ (FS.len fun x => by first | rfl | (cases x <;> rfl) | (obtain ⟨_, x⟩ := x; cases x <;> rfl)) fun cdv A fr s H vs Q E hr h => ⟨_, PSs.nox (pss_cons (ps_asg (pe_g (ks := []) rfl (T.g_ "told_pair") (T.k_ "told_pair") (k_told_pair (j := 3) T hr) (pa_cons (pv 1) pa_nil) pk_nil) (pg_tup rfl (pgs_cons (pg_name (i := 2) nd rfl (Or.inl rfl)) (pgs_cons (pg_name (i := 3) nd rfl (Or.inl rfl)) pgs_nil))))
      (pss_one (ps_ret (pe_g (ks := []) rfl (T.g_ "Ratio") (T.k_ "Ratio") (mk_Ratio_2 (j := 3) T hr) (pa_cons (pe_op (x_add T) (pe_op o_mul (x_fld T (pv 0) rfl) (pv 3)) (pe_op o_mul (pv 2) (x_fld T (pv 0) rfl))) (pa_cons (pe_op o_mul (x_fld T (pv 0) rfl) (pv 3)) pa_nil)) pk_nil)))), FS.body h fun x W ok => ?_⟩
  try dsimp only [cxOf, Cx.nox, Cx.blk]
  obtain ⟨q, m⟩ := x
  obtain ⟨hq, hm⟩ := ok
  refine at_ [some (rat K q), some (m.d K), none, none] rfl ?_
  apply b_two (a := .int m.v.num) (b := .int (m.v.den : Int))
  · exact v_told m (ea_cons (a_var rfl) ea_nil)
  apply b_retD
  · apply v_mk2
    · walk_at "dv ea"
    · exact mul_ne (den_ne _) (den_ne _)
    · exact den_lt hq hm
  · show rat K _ = rat K (m.v + q)
    rw [Rat.add_comm m.v q, add_fr]
theorem f_Ratio___sub__ {P : Program} {w : World} {K : PySem.W.Frag} {mg : PySem.Str → Option Value} {base : Heap} (T : Tx K mg) {fd : FuncData} (F : FunD K d_Ratio___sub__.name d_Ratio___sub__.qual d_Ratio___sub__.params d_Ratio___sub__.body d_Ratio___sub__.scope (d_Ratio___sub__.dvs K) (d_Ratio___sub__.kws K) (d_Ratio___sub__.at_ K) fd) : FnG P w K mg base CX0 4 (d_Ratio___sub__.at_ K) fd ["self", "other"] ((S_Ratio___sub__ K).sp K) := by
  have nd := sc_Ratio___sub__.nd
  refine fn_g F sc_Ratio___sub__ (FS.len fun x => by first | rfl | (cases x <;> rfl) | (obtain ⟨_, x⟩ := x; cases x <;> rfl)) fun cdv A fr s H vs Q E hr h => ⟨_, PSs.nox (pss_cons (ps_asg (pe_g (ks := []) rfl (T.g_ "told_pair") (T.k_ "told_pair") (k_told_pair (j := 3) T hr) (pa_cons (pv 1) pa_nil) pk_nil) (pg_tup rfl (pgs_cons (pg_name (i := 2) nd rfl (Or.inl rfl)) (pgs_cons (pg_name (i := 3) nd rfl (Or.inl rfl)) pgs_nil))))
      (pss_one (ps_ret (pe_g (ks := []) rfl (T.g_ "Ratio") (T.k_ "Ratio") (mk_Ratio_2 (j := 3) T hr) (pa_cons (pe_op o_sub (pe_op o_mul (x_fld T (pv 0) rfl) (pv 3)) (pe_op o_mul (pv 2) (x_fld T (pv 0) rfl))) (pa_cons (pe_op o_mul (x_fld T (pv 0) rfl) (pv 3)) pa_nil)) pk_nil)))), FS.body h fun x W ok => ?_⟩
  try dsimp only [cxOf, Cx.nox, Cx.blk]
  obtain ⟨q, m⟩ := x
  obtain ⟨hq, hm⟩ := ok
  refine at_ [some (rat K q), some (m.d K), none, none] rfl ?_
  apply b_two (a := .int m.v.num) (b := .int (m.v.den : Int))
  · exact v_told m (ea_cons (a_var rfl) ea_nil)
  apply b_retD
  · apply v_mk2
    · walk_at "dv ea"
    · exact mul_ne (den_ne _) (den_ne _)
    · exact den_lt hq hm
  · show rat K _ = rat K (q - m.v)
    rw [sub_fr]
theorem f_Ratio___rsub__ {P : Program} {w : World} {K : PySem.W.Frag} {mg : PySem.Str → Option Value} {base : Heap} (T : Tx K mg) {fd : FuncData} (F : FunD K d_Ratio___rsub__.name d_Ratio___rsub__.qual d_Ratio___rsub__.params d_Ratio___rsub__.body d_Ratio___rsub__.scope (d_Ratio___rsub__.dvs K) (d_Ratio___rsub__.kws K) (d_Ratio___rsub__.at_ K) fd) : FnG P w K mg base CX0 4 (d_Ratio___rsub__.at_ K) fd ["self", "other"] ((S_Ratio___rsub__ K).sp K) := by
  have nd := sc_Ratio___rsub__.nd
  refine fn_g F sc_Ratio___rsub__ (FS.len fun x => by first | rfl | (cases x <;> rfl) | (obtain ⟨_, x⟩ := x; cases x <;> rfl)) fun cdv A fr s H vs Q E hr h => ⟨_, PSs.nox (pss_cons (ps_asg (pe_g (ks := []) rfl (T.g_ "told_pair") (T.k_ "told_pair") (k_told_pair (j := 3) T hr) (pa_cons (pv 1) pa_nil) pk_nil) (pg_tup rfl (pgs_cons (pg_name (i := 2) nd rfl (Or.inl rfl)) (pgs_cons (pg_name (i := 3) nd rfl (Or.inl rfl)) pgs_nil))))
      (pss_one (ps_ret (pe_g (ks := []) rfl (T.g_ "Ratio") (T.k_ "Ratio") (mk_Ratio_2 (j := 3) T hr) (pa_cons (pe_op o_sub (pe_op o_mul (pv 2) (x_fld T (pv 0) rfl)) (pe_op o_mul (x_fld T (pv 0) rfl) (pv 3))) (pa_cons (pe_op o_mul (x_fld T (pv 0) rfl) (pv 3)) pa_nil)) pk_nil)))), FS.body h fun x W ok => ?_⟩
  try dsimp only [cxOf, Cx.nox, Cx.blk]
  obtain ⟨q, m⟩ := x
  obtain ⟨hq, hm⟩ := ok
  refine at_ [some (rat K q), some (m.d K), none, none] rfl ?_
  apply b_two (a := .int m.v.num) (b := .int (m.v.den : Int))
  · exact v_told m (ea_cons (a_var rfl) ea_nil)
  apply b_retD
  · apply v_mk2
    · walk_at "dv ea"
    · exact mul_ne (den_ne _) (den_ne _)
    · exact den_lt hq hm
  · show rat K _ = rat K (m.v - q)
    rw [sub_fr, Int.mul_comm (q.den : Int)]
theorem f_Ratio___mul__ {P : Program} {w : World} {K : PySem.W.Frag} {mg : PySem.Str → Option Value} {base : Heap} (T : Tx K mg) {fd : FuncData} (F : FunD K d_Ratio___mul__.name d_Ratio___mul__.qual d_Ratio___mul__.params d_Ratio___mul__.body d_Ratio___mul__.scope (d_Ratio___mul__.dvs K) (d_Ratio___mul__.kws K) (d_Ratio___mul__.at_ K) fd) : FnG P w K mg base CX0 4 (d_Ratio___mul__.at_ K) fd ["self", "other"] ((S_Ratio___mul__ K).sp K) := by
  have nd := sc_Ratio___mul__.nd
  refine fn_g F sc_Ratio___mul__ (FS.len fun x => by first | rfl | (cases x <;> rfl) | (obtain ⟨_, x⟩ := x; cases x <;> rfl)) fun cdv A fr s H vs Q E hr h => ⟨_, PSs.nox (pss_cons (ps_asg (pe_g (ks := []) rfl (T.g_ "told_pair") (T.k_ "told_pair") (k_told_pair (j := 3) T hr) (pa_cons (pv 1) pa_nil) pk_nil) (pg_tup rfl (pgs_cons (pg_name (i := 2) nd rfl (Or.inl rfl)) (pgs_cons (pg_name (i := 3) nd rfl (Or.inl rfl)) pgs_nil))))
      (pss_one (ps_ret (pe_g (ks := []) rfl (T.g_ "Ratio") (T.k_ "Ratio") (mk_Ratio_2 (j := 3) T hr) (pa_cons (pe_op o_mul (x_fld T (pv 0) rfl) (pv 2)) (pa_cons (pe_op o_mul (x_fld T (pv 0) rfl) (pv 3)) pa_nil)) pk_nil)))), FS.body h fun x W ok => ?_⟩
  try dsimp only [cxOf, Cx.nox, Cx.blk]
  obtain ⟨q, m⟩ := x
  obtain ⟨hq, hm⟩ := ok
  refine at_ [some (rat K q), some (m.d K), none, none] rfl ?_
  apply b_two (a := .int m.v.num) (b := .int (m.v.den : Int))
  · exact v_told m (ea_cons (a_var rfl) ea_nil)
  apply b_retD
  · apply v_mk2
    · walk_at "dv ea"
    · exact mul_ne (den_ne _) (den_ne _)
    · exact den_lt hq hm
  · show rat K _ = rat K (q * m.v)
    rw [mul_fr]
theorem f_Ratio___rmul__ {P : Program} {w : World} {K : PySem.W.Frag} {mg : PySem.Str → Option Value} {base : Heap} (T : Tx K mg) {fd : FuncData} (F : FunD K d_Ratio___rmul__.name d_Ratio___rmul__.qual d_Ratio___rmul__.params d_Ratio___rmul__.body d_Ratio___rmul__.scope (d_Ratio___rmul__.dvs K) (d_Ratio___rmul__.kws K) (d_Ratio___rmul__.at_ K) fd) : FnG P w K mg base CX0 4 (d_Ratio___rmul__.at_ K) fd ["self", "other"] ((S_Ratio___rmul__ K).sp K) := by
  have nd := sc_Ratio___rmul__.nd
  refine fn_g F sc_Ratio___rmul__ (FS.len fun x => by first | rfl | (cases x <;> rfl) | (obtain ⟨_, x⟩ := x; cases x <;> rfl)) fun cdv A fr s H vs Q E hr h => ⟨_, PSs.nox (pss_cons (ps_asg (pe_g (ks := []) rfl (T.g_ "told_pair") (T.k_ "told_pair") (k_told_pair (j := 3) T hr) (pa_cons (pv 1) pa_nil) pk_nil) (pg_tup rfl (pgs_cons (pg_name (i := 2) nd rfl (Or.inl rfl)) (pgs_cons (pg_name (i := 3) nd rfl (Or.inl rfl)) pgs_nil))))
      (pss_one (ps_ret (pe_g (ks := []) rfl (T.g_ "Ratio") (T.k_ "Ratio") (mk_Ratio_2 (j := 3) T hr) (pa_cons (pe_op o_mul (x_fld T (pv 0) rfl) (pv 2)) (pa_cons (pe_op o_mul (x_fld T (pv 0) rfl) (pv 3)) pa_nil)) pk_nil)))), FS.body h fun x W ok => ?_⟩
  try dsimp only [cxOf, Cx.nox, Cx.blk]
  obtain ⟨q, m⟩ := x
  obtain ⟨hq, hm⟩ := ok
  refine at_ [some (rat K q), some (m.d K), none, none] rfl ?_
  apply b_two (a := .int m.v.num) (b := .int (m.v.den : Int))
  · exact v_told m (ea_cons (a_var rfl) ea_nil)
  apply b_retD
  · apply v_mk2
    · walk_at "dv ea"
    · exact mul_ne (den_ne _) (den_ne _)
    · exact den_lt hq hm
  · show rat K _ = rat K (m.v * q)
    rw [Rat.mul_comm m.v q, mul_fr]
/-- q over r, r not 0 -/
def S_Ratio_over (K : PySem.W.Frag) : FS (Rat × Num) where
  arg x := [rat K x.1, x.2.d K]
  ok _ x := Bd 3500 x.1 ∧ Bd 3500 x.2.v ∧ x.2.v.num ≠ 0
  res x d := d = rat K (x.1 / x.2.v)
theorem f_Ratio_over {P : Program} {w : World} {K : PySem.W.Frag} {mg : PySem.Str → Option Value} {base : Heap} (T : Tx K mg) {fd : FuncData} (F : FunD K d_Ratio_over.name d_Ratio_over.qual d_Ratio_over.params d_Ratio_over.body d_Ratio_over.scope (d_Ratio_over.dvs K) (d_Ratio_over.kws K) (d_Ratio_over.at_ K) fd) : FnG P w K mg base CX0 4 (d_Ratio_over.at_ K) fd ["self", "other"] ((S_Ratio_over K).sp K) := by
  have nd := sc_Ratio_over.nd
  refine fn_g F sc_Ratio_over (FS.len fun x => by first | rfl | (cases x <;> rfl) | (obtain ⟨_, x⟩ := x; cases x <;> rfl)) fun cdv A fr s H vs Q E hr h => ⟨_, PSs.nox (pss_cons (ps_asg (pe_g (ks := []) rfl (T.g_ "told_pair") (T.k_ "told_pair") (k_told_pair (j := 3) T hr) (pa_cons (pv 1) pa_nil) pk_nil) (pg_tup rfl (pgs_cons (pg_name (i := 2) nd rfl (Or.inl rfl)) (pgs_cons (pg_name (i := 3) nd rfl (Or.inl rfl)) pgs_nil))))
      (pss_cons (ps_if (pt_cmpR (x_eq (j := 3) T hr) (pv 2) pe_int (nomark _)) (pss_one ps_never) pss_nil)
      (pss_one (ps_ret (pe_g (ks := []) rfl (T.g_ "Ratio") (T.k_ "Ratio") (mk_Ratio_2 (j := 3) T hr) (pa_cons (pe_op o_mul (x_fld T (pv 0) rfl) (pv 3)) (pa_cons (pe_op o_mul (x_fld T (pv 0) rfl) (pv 2)) pa_nil)) pk_nil))))), FS.body h fun x W ok => ?_⟩
  try dsimp only [cxOf, Cx.nox, Cx.blk]
  obtain ⟨q, m⟩ := x
  obtain ⟨hq, hm, hn⟩ := ok
  refine at_ [some (rat K q), some (m.d K), none, none] rfl ?_
  apply b_two (a := .int m.v.num) (b := .int (m.v.den : Int))
  · exact v_told m (ea_cons (a_var rfl) ea_nil)
  apply b_no
  · walk_at "dv et"
  · exact decide_eq_false hn
  apply b_retD
  · apply v_mk2
    · walk_at "dv ea"
    · exact mul_ne (den_ne _) hn
    · exact den_ltN hq hm
  · show rat K _ = rat K _
    rw [div_fr]
def S_Ratio___neg__ (K : PySem.W.Frag) : FS Rat where
  arg q := [rat K q]
  ok _ q := Bd 3500 q
  res q d := d = rat K (-q)
theorem neg_fr (q : Rat) : -q = Rat.divInt (0 - q.num) q.den := by
  have := Rat.neg_divInt q.num q.den
  rw [Rat.num_divInt_den] at this
  rw [this, Int.zero_sub]
theorem den_one {q : Rat} (h : Bd 3500 q) : (q.den : Int).natAbs < 2 ^ 8000 := by
  rw [Int.natAbs_natCast]
  exact Nat.lt_trans h.2 (Nat.pow_lt_pow_right (by decide) (by decide))
theorem f_Ratio___neg__ {P : Program} {w : World} {K : PySem.W.Frag} {mg : PySem.Str → Option Value} {base : Heap} (T : Tx K mg) {fd : FuncData} (F : FunD K d_Ratio___neg__.name d_Ratio___neg__.qual d_Ratio___neg__.params d_Ratio___neg__.body d_Ratio___neg__.scope (d_Ratio___neg__.dvs K) (d_Ratio___neg__.kws K) (d_Ratio___neg__.at_ K) fd) : FnG P w K mg base CX0 4 (d_Ratio___neg__.at_ K) fd ["self"] ((S_Ratio___neg__ K).sp K) := by
  have nd := sc_Ratio___neg__.nd
  refine fn_g F sc_Ratio___neg__ (FS.len fun x => by first | rfl | (cases x <;> rfl) | (obtain ⟨_, x⟩ := x; cases x <;> rfl)) fun cdv A fr s H vs Q E hr h => ⟨_, PSs.nox (pss_one (ps_ret (pe_g (ks := []) rfl (T.g_ "Ratio") (T.k_ "Ratio") (mk_Ratio_2 (j := 3) T hr) (pa_cons (pe_op o_sub pe_int (x_fld T (pv 0) rfl)) (pa_cons (x_fld T (pv 0) rfl) pa_nil)) pk_nil))), FS.body h fun x W ok => ?_⟩
  try dsimp only [cxOf, Cx.nox, Cx.blk]
  refine at_ [some (rat K x)] rfl ?_
  apply b_retD
  · apply v_mk2
    · walk_at "dv ea"
    · exact den_ne _
    · exact den_one ok
  · show rat K _ = rat K _
    rw [neg_fr]
/-- the size of a ratio -/
def absR (q : Rat) : Rat := ⟨q.num.natAbs, q.den, q.den_nz, by rw [Int.natAbs_natCast]; exact q.reduced⟩
def S_Ratio_size (K : PySem.W.Frag) : FS Rat where
  arg q := [rat K q]
  ok _ q := Bd 3500 q
  res q d := d = rat K (absR q)
theorem f_Ratio_size {P : Program} {w : World} {K : PySem.W.Frag} {mg : PySem.Str → Option Value} {base : Heap} (T : Tx K mg) {fd : FuncData} (F : FunD K d_Ratio_size.name d_Ratio_size.qual d_Ratio_size.params d_Ratio_size.body d_Ratio_size.scope (d_Ratio_size.dvs K) (d_Ratio_size.kws K) (d_Ratio_size.at_ K) fd) : FnG P w K mg base CX0 4 (d_Ratio_size.at_ K) fd ["self"] ((S_Ratio_size K).sp K) := by
  have nd := sc_Ratio_size.nd
  refine fn_g F sc_Ratio_size (FS.len fun x => by first | rfl | (cases x <;> rfl) | (obtain ⟨_, x⟩ := x; cases x <;> rfl)) fun cdv A fr s H vs Q E hr h => ⟨_, PSs.nox (pss_one (ps_ret (pe_g (ks := []) rfl (T.g_ "Ratio") (T.k_ "Ratio") (mk_Ratio_2 (j := 3) T hr) (pa_cons (pe_callB k_abs rfl (T.f_ "abs") PyProof.Rows.boot_abs (pa_cons (x_fld T (pv 0) rfl) pa_nil)) (pa_cons (x_fld T (pv 0) rfl) pa_nil)) pk_nil))), FS.body h fun x W ok => ?_⟩
  try dsimp only [cxOf, Cx.nox, Cx.blk]
  refine at_ [some (rat K x)] rfl ?_
  apply b_retD
  · apply v_mk2
    · walk_at "dv ea"
    · exact den_ne _
    · exact den_one ok
  · show rat K _ = rat K _
    rw [← Rat.num_divInt_den (absR x)]
    rfl
def S_rel (f : Rat → Rat → Bool) (K : PySem.W.Frag) : FS (Rat × Num) where
  arg x := [rat K x.1, x.2.d K]
  ok _ x := Bd 3500 x.1 ∧ Bd 3500 x.2.v
  res x d := d = .bl (f x.1 x.2.v)
abbrev S_Ratio_is_below := S_rel fun q r => decide (q < r)
abbrev S_Ratio_is_at_most := S_rel fun q r => decide (q ≤ r)
theorem f_Ratio_is_below {P : Program} {w : World} {K : PySem.W.Frag} {mg : PySem.Str → Option Value} {base : Heap} (T : Tx K mg) {fd : FuncData} (F : FunD K d_Ratio_is_below.name d_Ratio_is_below.qual d_Ratio_is_below.params d_Ratio_is_below.body d_Ratio_is_below.scope (d_Ratio_is_below.dvs K) (d_Ratio_is_below.kws K) (d_Ratio_is_below.at_ K) fd) : FnG P w K mg base CX0 3 (d_Ratio_is_below.at_ K) fd ["self", "other"] ((S_Ratio_is_below K).sp K) := by
  have nd := sc_Ratio_is_below.nd
  refine fn_g F sc_Ratio_is_below (FS.len fun x => by first | rfl | (cases x <;> rfl) | (obtain ⟨_, x⟩ := x; cases x <;> rfl)) fun cdv A fr s H vs Q E hr h => ⟨_, PSs.nox (pss_cons (ps_asg (pe_g (ks := []) rfl (T.g_ "told_pair") (T.k_ "told_pair") (k_told_pair (j := 2) T hr) (pa_cons (pv 1) pa_nil) pk_nil) (pg_tup rfl (pgs_cons (pg_name (i := 2) nd rfl (Or.inl rfl)) (pgs_cons (pg_name (i := 3) nd rfl (Or.inl rfl)) pgs_nil))))
      (pss_one (ps_ret (pe_cmpR o_lt (pe_op o_mul (x_fld T (pv 0) rfl) (pv 3)) (pe_op o_mul (pv 2) (x_fld T (pv 0) rfl)) (nomark _))))), FS.body h fun x W ok => ?_⟩
  try dsimp only [cxOf, Cx.nox, Cx.blk]
  obtain ⟨q, m⟩ := x
  obtain ⟨hq, hm⟩ := ok
  refine at_ [some (rat K q), some (m.d K), none, none] rfl ?_
  apply b_two (a := .int m.v.num) (b := .int (m.v.den : Int))
  · exact v_told m (ea_cons (a_var rfl) ea_nil)
  apply b_retD
  · walk_at "dv ev"
  · show Dat.bl _ = .bl (decide (q < m.v))
    rw [show decide (q < m.v) = decide (q.num * (m.v.den : Int) < m.v.num * (q.den : Int)) from decide_eq_decide.mpr (Rat.lt_iff q m.v)]
theorem f_Ratio_is_at_most {P : Program} {w : World} {K : PySem.W.Frag} {mg : PySem.Str → Option Value} {base : Heap} (T : Tx K mg) {fd : FuncData} (F : FunD K d_Ratio_is_at_most.name d_Ratio_is_at_most.qual d_Ratio_is_at_most.params d_Ratio_is_at_most.body d_Ratio_is_at_most.scope (d_Ratio_is_at_most.dvs K) (d_Ratio_is_at_most.kws K) (d_Ratio_is_at_most.at_ K) fd) : FnG P w K mg base CX0 3 (d_Ratio_is_at_most.at_ K) fd ["self", "other"] ((S_Ratio_is_at_most K).sp K) := by
  have nd := sc_Ratio_is_at_most.nd
  refine fn_g F sc_Ratio_is_at_most (FS.len fun x => by first | rfl | (cases x <;> rfl) | (obtain ⟨_, x⟩ := x; cases x <;> rfl)) fun cdv A fr s H vs Q E hr h => ⟨_, PSs.nox (pss_cons (ps_asg (pe_g (ks := []) rfl (T.g_ "told_pair") (T.k_ "told_pair") (k_told_pair (j := 2) T hr) (pa_cons (pv 1) pa_nil) pk_nil) (pg_tup rfl (pgs_cons (pg_name (i := 2) nd rfl (Or.inl rfl)) (pgs_cons (pg_name (i := 3) nd rfl (Or.inl rfl)) pgs_nil))))
      (pss_one (ps_ret (pe_cmpR o_le (pe_op o_mul (x_fld T (pv 0) rfl) (pv 3)) (pe_op o_mul (pv 2) (x_fld T (pv 0) rfl)) (nomark _))))), FS.body h fun x W ok => ?_⟩
  try dsimp only [cxOf, Cx.nox, Cx.blk]
  obtain ⟨q, m⟩ := x
  obtain ⟨hq, hm⟩ := ok
  refine at_ [some (rat K q), some (m.d K), none, none] rfl ?_
  apply b_two (a := .int m.v.num) (b := .int (m.v.den : Int))
  · exact v_told m (ea_cons (a_var rfl) ea_nil)
  apply b_retD
  · walk_at "dv ev"
  · show Dat.bl _ = .bl (decide (q ≤ m.v))
    rw [show decide (q ≤ m.v) = decide (q.num * (m.v.den : Int) ≤ m.v.num * (q.den : Int)) from decide_eq_decide.mpr (Rat.le_iff q m.v)]
/-- equality -/
def eqN (q : Rat) : Num → Bool
  | .i _ => false
  | .r r => decide (q = r)
def S_Ratio___eq__ (K : PySem.W.Frag) : FS (Rat × Num) where
  arg x := [rat K x.1, x.2.d K]
  res x d := d = .bl (eqN x.1 x.2)
theorem eq_parts (q r : Rat) : (decide (q.num = r.num) && decide ((q.den : Int) = (r.den : Int))) = decide (q = r) := by
  rw [Bool.eq_iff_iff, Bool.and_eq_true, decide_eq_true_iff, decide_eq_true_iff, decide_eq_true_iff]
  exact ⟨fun ⟨a, b⟩ => Rat.ext a (Int.ofNat.inj b), fun e => by rw [e]; exact ⟨rfl, rfl⟩⟩
theorem f_Ratio___eq__ {P : Program} {w : World} {K : PySem.W.Frag} {mg : PySem.Str → Option Value} {base : Heap} (T : Tx K mg) {fd : FuncData} (F : FunD K d_Ratio___eq__.name d_Ratio___eq__.qual d_Ratio___eq__.params d_Ratio___eq__.body d_Ratio___eq__.scope (d_Ratio___eq__.dvs K) (d_Ratio___eq__.kws K) (d_Ratio___eq__.at_ K) fd) : FnG P w K mg base CX0 1 (d_Ratio___eq__.at_ K) fd ["self", "other"] ((S_Ratio___eq__ K).sp K) := by
  have nd := sc_Ratio___eq__.nd
  refine fn_g F sc_Ratio___eq__ (FS.len fun x => by first | rfl | (cases x <;> rfl) | (obtain ⟨_, x⟩ := x; cases x <;> rfl)) fun cdv A fr s H vs Q E hr h => ⟨_, PSs.nox (pss_cons (ps_if (pt_not (pt_val (pe_callB (x_isi T) rfl (T.f_ "isinstance") PyProof.Rows.boot_isinstance (pa_cons (pv 1) (pa_cons (pe_glob (v := .ref _) rfl (T.g_ "Ratio") rfl) pa_nil))))) (pss_one (ps_ret pe_bl)) pss_nil)
      (pss_one (ps_ret (pe_and (pe_cmpR (x_eq (j := 0) T hr) (x_fld T (pv 0) rfl) (x_fld T (pv 1) rfl) (nomark _)) (pe_one (pe_cmpR (x_eq (j := 0) T hr) (x_fld T (pv 0) rfl) (x_fld T (pv 1) rfl) (nomark _))))))), FS.body h fun x W ok => ?_⟩
  try dsimp only [cxOf, Cx.nox, Cx.blk]
  obtain ⟨q, m⟩ := x
  cases m with
  | i n =>
    refine at_ [some (rat K q), some (.int n)] rfl ?_
    apply b_when
    · apply et_not
      apply et_BD
      exact ev_cb (ea_cons (a_var rfl) (ea_cons ev_obj ea_nil)) (d_isiC (d := .int n) trivial T.ex1.ir)
    · intro _
      apply b_retD
      · walk_at "dv ev"
      · rfl
    · intro e
      cases e
  | r r =>
    refine at_ [some (rat K q), some (rat K r)] rfl ?_
    apply b_no
    · apply et_not
      apply et_BD
      exact ev_cb (ea_cons (a_var rfl) (ea_cons ev_obj ea_nil)) (d_isiC (d := rat K r) T.isi T.rr)
    · rfl
    apply b_retD
    · walk_at "dv ev"
    · show Dat.bl _ = .bl (decide (q = r))
      rw [← eq_parts]
theorem g_Ratio___add__ {P : Program} {w : World} {K : PySem.W.Frag} {mg : PySem.Str → Option Value} {base : Heap} (T : Tx K mg) : CxG P w K mg base CX0 (He.ma K (He.ga K "Ratio") "__add__") 4 2 [] ((S_Ratio___add__ K).sp K) idv := by
  obtain ⟨fd, F⟩ := T.c.def_ 10 (d := d_Ratio___add__) rfl
  exact ⟨fd, _, _, f_Ratio___add__ T F, kb_plain F 2 [] (fun us _ => us) (fun a _ => a) fun _ _ _ _ _ _ us ws h1 h2 => match us, h1, ws, h2 with | [_, _], _, [], _ => rfl⟩
theorem k_Ratio___add__ {X : Cx} {K : PySem.W.Frag} {mg : PySem.Str → Option Value} {j : Nat} (T : Tx K mg) (hr : RoomG j X.A) (hj : 4 ≤ j := by decide) (hX : AtX X K mg := by exact ⟨rfl, rfl⟩) : CanG X (.ref (He.ma K (He.ga K "Ratio") "__add__")) [] (rFn 2 0 ((S_Ratio___add__ K).sp K) idv E0) := by
  obtain ⟨rfl, rfl⟩ := hX
  exact can_cx (g_Ratio___add__ T) (hr.le hj) pass0
theorem g_Ratio___radd__ {P : Program} {w : World} {K : PySem.W.Frag} {mg : PySem.Str → Option Value} {base : Heap} (T : Tx K mg) : CxG P w K mg base CX0 (He.ma K (He.ga K "Ratio") "__radd__") 4 2 [] ((S_Ratio___radd__ K).sp K) idv := by
  obtain ⟨fd, F⟩ := T.c.def_ 11 (d := d_Ratio___radd__) rfl
  exact ⟨fd, _, _, f_Ratio___radd__ T F, kb_plain F 2 [] (fun us _ => us) (fun a _ => a) fun _ _ _ _ _ _ us ws h1 h2 => match us, h1, ws, h2 with | [_, _], _, [], _ => rfl⟩
theorem k_Ratio___radd__ {X : Cx} {K : PySem.W.Frag} {mg : PySem.Str → Option Value} {j : Nat} (T : Tx K mg) (hr : RoomG j X.A) (hj : 4 ≤ j := by decide) (hX : AtX X K mg := by exact ⟨rfl, rfl⟩) : CanG X (.ref (He.ma K (He.ga K "Ratio") "__radd__")) [] (rFn 2 0 ((S_Ratio___radd__ K).sp K) idv E0) := by
  obtain ⟨rfl, rfl⟩ := hX
  exact can_cx (g_Ratio___radd__ T) (hr.le hj) pass0
theorem g_Ratio___sub__ {P : Program} {w : World} {K : PySem.W.Frag} {mg : PySem.Str → Option Value} {base : Heap} (T : Tx K mg) : CxG P w K mg base CX0 (He.ma K (He.ga K "Ratio") "__sub__") 4 2 [] ((S_Ratio___sub__ K).sp K) idv := by
  obtain ⟨fd, F⟩ := T.c.def_ 12 (d := d_Ratio___sub__) rfl
  exact ⟨fd, _, _, f_Ratio___sub__ T F, kb_plain F 2 [] (fun us _ => us) (fun a _ => a) fun _ _ _ _ _ _ us ws h1 h2 => match us, h1, ws, h2 with | [_, _], _, [], _ => rfl⟩
theorem k_Ratio___sub__ {X : Cx} {K : PySem.W.Frag} {mg : PySem.Str → Option Value} {j : Nat} (T : Tx K mg) (hr : RoomG j X.A) (hj : 4 ≤ j := by decide) (hX : AtX X K mg := by exact ⟨rfl, rfl⟩) : CanG X (.ref (He.ma K (He.ga K "Ratio") "__sub__")) [] (rFn 2 0 ((S_Ratio___sub__ K).sp K) idv E0) := by
  obtain ⟨rfl, rfl⟩ := hX
  exact can_cx (g_Ratio___sub__ T) (hr.le hj) pass0
theorem g_Ratio___rsub__ {P : Program} {w : World} {K : PySem.W.Frag} {mg : PySem.Str → Option Value} {base : Heap} (T : Tx K mg) : CxG P w K mg base CX0 (He.ma K (He.ga K "Ratio") "__rsub__") 4 2 [] ((S_Ratio___rsub__ K).sp K) idv := by
  obtain ⟨fd, F⟩ := T.c.def_ 13 (d := d_Ratio___rsub__) rfl
  exact ⟨fd, _, _, f_Ratio___rsub__ T F, kb_plain F 2 [] (fun us _ => us) (fun a _ => a) fun _ _ _ _ _ _ us ws h1 h2 => match us, h1, ws, h2 with | [_, _], _, [], _ => rfl⟩
theorem k_Ratio___rsub__ {X : Cx} {K : PySem.W.Frag} {mg : PySem.Str → Option Value} {j : Nat} (T : Tx K mg) (hr : RoomG j X.A) (hj : 4 ≤ j := by decide) (hX : AtX X K mg := by exact ⟨rfl, rfl⟩) : CanG X (.ref (He.ma K (He.ga K "Ratio") "__rsub__")) [] (rFn 2 0 ((S_Ratio___rsub__ K).sp K) idv E0) := by
  obtain ⟨rfl, rfl⟩ := hX
  exact can_cx (g_Ratio___rsub__ T) (hr.le hj) pass0
theorem g_Ratio___mul__ {P : Program} {w : World} {K : PySem.W.Frag} {mg : PySem.Str → Option Value} {base : Heap} (T : Tx K mg) : CxG P w K mg base CX0 (He.ma K (He.ga K "Ratio") "__mul__") 4 2 [] ((S_Ratio___mul__ K).sp K) idv := by
  obtain ⟨fd, F⟩ := T.c.def_ 14 (d := d_Ratio___mul__) rfl
  exact ⟨fd, _, _, f_Ratio___mul__ T F, kb_plain F 2 [] (fun us _ => us) (fun a _ => a) fun _ _ _ _ _ _ us ws h1 h2 => match us, h1, ws, h2 with | [_, _], _, [], _ => rfl⟩
theorem k_Ratio___mul__ {X : Cx} {K : PySem.W.Frag} {mg : PySem.Str → Option Value} {j : Nat} (T : Tx K mg) (hr : RoomG j X.A) (hj : 4 ≤ j := by decide) (hX : AtX X K mg := by exact ⟨rfl, rfl⟩) : CanG X (.ref (He.ma K (He.ga K "Ratio") "__mul__")) [] (rFn 2 0 ((S_Ratio___mul__ K).sp K) idv E0) := by
  obtain ⟨rfl, rfl⟩ := hX
  exact can_cx (g_Ratio___mul__ T) (hr.le hj) pass0
theorem g_Ratio___rmul__ {P : Program} {w : World} {K : PySem.W.Frag} {mg : PySem.Str → Option Value} {base : Heap} (T : Tx K mg) : CxG P w K mg base CX0 (He.ma K (He.ga K "Ratio") "__rmul__") 4 2 [] ((S_Ratio___rmul__ K).sp K) idv := by
  obtain ⟨fd, F⟩ := T.c.def_ 15 (d := d_Ratio___rmul__) rfl
  exact ⟨fd, _, _, f_Ratio___rmul__ T F, kb_plain F 2 [] (fun us _ => us) (fun a _ => a) fun _ _ _ _ _ _ us ws h1 h2 => match us, h1, ws, h2 with | [_, _], _, [], _ => rfl⟩
theorem k_Ratio___rmul__ {X : Cx} {K : PySem.W.Frag} {mg : PySem.Str → Option Value} {j : Nat} (T : Tx K mg) (hr : RoomG j X.A) (hj : 4 ≤ j := by decide) (hX : AtX X K mg := by exact ⟨rfl, rfl⟩) : CanG X (.ref (He.ma K (He.ga K "Ratio") "__rmul__")) [] (rFn 2 0 ((S_Ratio___rmul__ K).sp K) idv E0) := by
  obtain ⟨rfl, rfl⟩ := hX
  exact can_cx (g_Ratio___rmul__ T) (hr.le hj) pass0
theorem g_Ratio___neg__ {P : Program} {w : World} {K : PySem.W.Frag} {mg : PySem.Str → Option Value} {base : Heap} (T : Tx K mg) : CxG P w K mg base CX0 (He.ma K (He.ga K "Ratio") "__neg__") 4 1 [] ((S_Ratio___neg__ K).sp K) idv := by
  obtain ⟨fd, F⟩ := T.c.def_ 16 (d := d_Ratio___neg__) rfl
  exact ⟨fd, _, _, f_Ratio___neg__ T F, kb_plain F 1 [] (fun us _ => us) (fun a _ => a) fun _ _ _ _ _ _ us ws h1 h2 => match us, h1, ws, h2 with | [_], _, [], _ => rfl⟩
theorem k_Ratio___neg__ {X : Cx} {K : PySem.W.Frag} {mg : PySem.Str → Option Value} {j : Nat} (T : Tx K mg) (hr : RoomG j X.A) (hj : 4 ≤ j := by decide) (hX : AtX X K mg := by exact ⟨rfl, rfl⟩) : CanG X (.ref (He.ma K (He.ga K "Ratio") "__neg__")) [] (rFn 1 0 ((S_Ratio___neg__ K).sp K) idv E0) := by
  obtain ⟨rfl, rfl⟩ := hX
  exact can_cx (g_Ratio___neg__ T) (hr.le hj) pass0
theorem g_Ratio___eq__ {P : Program} {w : World} {K : PySem.W.Frag} {mg : PySem.Str → Option Value} {base : Heap} (T : Tx K mg) : CxG P w K mg base CX0 (He.ma K (He.ga K "Ratio") "__eq__") 1 2 [] ((S_Ratio___eq__ K).sp K) idv := by
  obtain ⟨fd, F⟩ := T.c.def_ 21 (d := d_Ratio___eq__) rfl
  exact ⟨fd, _, _, f_Ratio___eq__ T F, kb_plain F 2 [] (fun us _ => us) (fun a _ => a) fun _ _ _ _ _ _ us ws h1 h2 => match us, h1, ws, h2 with | [_, _], _, [], _ => rfl⟩
theorem k_Ratio___eq__ {X : Cx} {K : PySem.W.Frag} {mg : PySem.Str → Option Value} {j : Nat} (T : Tx K mg) (hr : RoomG j X.A) (hj : 1 ≤ j := by decide) (hX : AtX X K mg := by exact ⟨rfl, rfl⟩) : CanG X (.ref (He.ma K (He.ga K "Ratio") "__eq__")) [] (rFn 2 0 ((S_Ratio___eq__ K).sp K) idv E0) := by
  obtain ⟨rfl, rfl⟩ := hX
  exact can_cx (g_Ratio___eq__ T) (hr.le hj) pass0
theorem g_Ratio_over {P : Program} {w : World} {K : PySem.W.Frag} {mg : PySem.Str → Option Value} {base : Heap} (T : Tx K mg) : CxG P w K mg base CX0 (He.ma K (He.ga K "Ratio") "over") 4 2 [] ((S_Ratio_over K).sp K) idv := by
  obtain ⟨fd, F⟩ := T.c.def_ 17 (d := d_Ratio_over) rfl
  exact ⟨fd, _, _, f_Ratio_over T F, kb_plain F 2 [] (fun us _ => us) (fun a _ => a) fun _ _ _ _ _ _ us ws h1 h2 => match us, h1, ws, h2 with | [_, _], _, [], _ => rfl⟩
theorem k_Ratio_over {X : Cx} {K : PySem.W.Frag} {mg : PySem.Str → Option Value} {j : Nat} (T : Tx K mg) (hr : RoomG j X.A) (hj : 4 ≤ j := by decide) (hX : AtX X K mg := by exact ⟨rfl, rfl⟩) : CanG X (.ref (He.ma K (He.ga K "Ratio") "over")) [] (rFn 2 0 ((S_Ratio_over K).sp K) idv E0) := by
  obtain ⟨rfl, rfl⟩ := hX
  exact can_cx (g_Ratio_over T) (hr.le hj) pass0
theorem g_Ratio_size {P : Program} {w : World} {K : PySem.W.Frag} {mg : PySem.Str → Option Value} {base : Heap} (T : Tx K mg) : CxG P w K mg base CX0 (He.ma K (He.ga K "Ratio") "size") 4 1 [] ((S_Ratio_size K).sp K) idv := by
  obtain ⟨fd, F⟩ := T.c.def_ 18 (d := d_Ratio_size) rfl
  exact ⟨fd, _, _, f_Ratio_size T F, kb_plain F 1 [] (fun us _ => us) (fun a _ => a) fun _ _ _ _ _ _ us ws h1 h2 => match us, h1, ws, h2 with | [_], _, [], _ => rfl⟩
theorem k_Ratio_size {X : Cx} {K : PySem.W.Frag} {mg : PySem.Str → Option Value} {j : Nat} (T : Tx K mg) (hr : RoomG j X.A) (hj : 4 ≤ j := by decide) (hX : AtX X K mg := by exact ⟨rfl, rfl⟩) : CanG X (.ref (He.ma K (He.ga K "Ratio") "size")) [] (rFn 1 0 ((S_Ratio_size K).sp K) idv E0) := by
  obtain ⟨rfl, rfl⟩ := hX
  exact can_cx (g_Ratio_size T) (hr.le hj) pass0
theorem g_Ratio_is_below {P : Program} {w : World} {K : PySem.W.Frag} {mg : PySem.Str → Option Value} {base : Heap} (T : Tx K mg) : CxG P w K mg base CX0 (He.ma K (He.ga K "Ratio") "is_below") 3 2 [] ((S_Ratio_is_below K).sp K) idv := by
  obtain ⟨fd, F⟩ := T.c.def_ 19 (d := d_Ratio_is_below) rfl
  exact ⟨fd, _, _, f_Ratio_is_below T F, kb_plain F 2 [] (fun us _ => us) (fun a _ => a) fun _ _ _ _ _ _ us ws h1 h2 => match us, h1, ws, h2 with | [_, _], _, [], _ => rfl⟩
theorem k_Ratio_is_below {X : Cx} {K : PySem.W.Frag} {mg : PySem.Str → Option Value} {j : Nat} (T : Tx K mg) (hr : RoomG j X.A) (hj : 3 ≤ j := by decide) (hX : AtX X K mg := by exact ⟨rfl, rfl⟩) : CanG X (.ref (He.ma K (He.ga K "Ratio") "is_below")) [] (rFn 2 0 ((S_Ratio_is_below K).sp K) idv E0) := by
  obtain ⟨rfl, rfl⟩ := hX
  exact can_cx (g_Ratio_is_below T) (hr.le hj) pass0
theorem g_Ratio_is_at_most {P : Program} {w : World} {K : PySem.W.Frag} {mg : PySem.Str → Option Value} {base : Heap} (T : Tx K mg) : CxG P w K mg base CX0 (He.ma K (He.ga K "Ratio") "is_at_most") 3 2 [] ((S_Ratio_is_at_most K).sp K) idv := by
  obtain ⟨fd, F⟩ := T.c.def_ 20 (d := d_Ratio_is_at_most) rfl
  exact ⟨fd, _, _, f_Ratio_is_at_most T F, kb_plain F 2 [] (fun us _ => us) (fun a _ => a) fun _ _ _ _ _ _ us ws h1 h2 => match us, h1, ws, h2 with | [_, _], _, [], _ => rfl⟩
theorem k_Ratio_is_at_most {X : Cx} {K : PySem.W.Frag} {mg : PySem.Str → Option Value} {j : Nat} (T : Tx K mg) (hr : RoomG j X.A) (hj : 3 ≤ j := by decide) (hX : AtX X K mg := by exact ⟨rfl, rfl⟩) : CanG X (.ref (He.ma K (He.ga K "Ratio") "is_at_most")) [] (rFn 2 0 ((S_Ratio_is_at_most K).sp K) idv E0) := by
  obtain ⟨rfl, rfl⟩ := hX
  exact can_cx (g_Ratio_is_at_most T) (hr.le hj) pass0
theorem k_Ratio_over_other {X : Cx} {K : PySem.W.Frag} {mg : PySem.Str → Option Value} {j : Nat} (T : Tx K mg) (hr : RoomG j X.A) (hj : 4 ≤ j := by decide) (hX : AtX X K mg := by exact ⟨rfl, rfl⟩) : CanG X (.ref (He.ma K (He.ga K "Ratio") "over")) ["other"] (rFn 1 1 ((S_Ratio_over K).sp K) (fun vs zs => vs ++ zs) E0) := by
  obtain ⟨rfl, rfl⟩ := hX
  obtain ⟨fd, F⟩ := T.c.def_ 17 (d := d_Ratio_over) rfl
  exact can_fn (f_Ratio_over T F) (hr.le hj) (kb_plain F 1 ["other"] (fun us ws => us ++ ws) (fun a b => a.append b) fun _ _ _ _ _ _ us ws h1 h2 => match us, h1, ws, h2 with | [_], _, [_], _ => rfl) pass0
theorem k_Ratio_is_below_other {X : Cx} {K : PySem.W.Frag} {mg : PySem.Str → Option Value} {j : Nat} (T : Tx K mg) (hr : RoomG j X.A) (hj : 3 ≤ j := by decide) (hX : AtX X K mg := by exact ⟨rfl, rfl⟩) : CanG X (.ref (He.ma K (He.ga K "Ratio") "is_below")) ["other"] (rFn 1 1 ((S_Ratio_is_below K).sp K) (fun vs zs => vs ++ zs) E0) := by
  obtain ⟨rfl, rfl⟩ := hX
  obtain ⟨fd, F⟩ := T.c.def_ 19 (d := d_Ratio_is_below) rfl
  exact can_fn (f_Ratio_is_below T F) (hr.le hj) (kb_plain F 1 ["other"] (fun us ws => us ++ ws) (fun a b => a.append b) fun _ _ _ _ _ _ us ws h1 h2 => match us, h1, ws, h2 with | [_], _, [_], _ => rfl) pass0
end DV

set_option Elab.async false
set_option autoImplicit false
set_option linter.all false
set_option maxRecDepth 100000
set_option maxHeartbeats 4000000
namespace DV
open PySem PySem.Spec PyProof.Rows L2
/-! ### tactics: evaluate what stands there -/
local macro_rules | `(tactic| walk_at "dv sz") => `(tactic| first | assumption | exact cm_nn (by assumption) (by assumption) (by decide) | exact cm_nd (by assumption) (by assumption) (by decide) | exact cm_dn (by assumption) (by assumption) (by decide) | exact cm_dd (by assumption) (by assumption) (by decide) | decide | omega | (simp; done))
local macro_rules | `(tactic| walk_at "dv rop") => `(tactic| first
  | with_reducible exact d_add | with_reducible exact d_sub | with_reducible exact d_lt | with_reducible exact d_le | with_reducible exact d_gt | with_reducible exact d_ge
  | with_reducible exact d_eqI | with_reducible exact d_neI | with_reducible exact d_eqS | with_reducible exact d_neS | with_reducible exact d_eqB | with_reducible exact d_neB | with_reducible exact d_isB
  | ((with_reducible apply d_mul); walk_at "dv sz") | ((with_reducible apply d_fd); walk_at "dv sz") | ((with_reducible apply d_mod); walk_at "dv sz") | ((with_reducible apply d_pow); walk_at "dv sz")
  | ((with_reducible apply d_ixL); exact rfl) | ((with_reducible apply d_ixT); exact rfl)
  | ((with_reducible apply d_addL); walk_at "dv sz") | ((with_reducible apply d_addS); walk_at "dv sz"))
local macro_rules | `(tactic| walk_at "dv rcp") => `(tactic| first
  | with_reducible exact d_abs | with_reducible exact d_max | with_reducible exact d_min | with_reducible exact d_intI | with_reducible exact d_intB | with_reducible exact d_lenL | with_reducible exact d_lenT | with_reducible exact d_tupL | with_reducible exact d_tupT
  | ((with_reducible apply d_str); walk_at "dv sz") | ((with_reducible apply d_divmod); walk_at "dv sz"))
local macro_rules | `(tactic| walk_at "dv ea") => `(tactic| first
  | with_reducible exact ea_nil
  | ((with_reducible apply ea_cons); (walk_at "dv ev"); (walk_at "dv ea")))
local macro_rules | `(tactic| walk_at "dv et") => `(tactic| first
  | ((with_reducible apply et_not); walk_at "dv et")
  | ((with_reducible apply et_and); (walk_at "dv et"); (intro _; walk_at "dv et"))
  | ((with_reducible apply et_or); (walk_at "dv et"); (intro _; walk_at "dv et"))
  | ((with_reducible apply et_testD); walk_at "dv ev")
  | ((with_reducible apply et_BD); walk_at "dv ev"))
local macro_rules | `(tactic| walk_at "dv call") => `(tactic| fail "no call")
local macro_rules | `(tactic| walk_at "dv ev") => `(tactic| first
  | with_reducible exact ev_int | with_reducible exact ev_str | with_reducible exact ev_bl | with_reducible exact ev_non | with_reducible exact ev_obj
  | ((with_reducible apply a_var); exact rfl)
  | ((with_reducible apply ev_op); (walk_at "dv ev"); (walk_at "dv ev"); (walk_at "dv rop"))
  | ((with_reducible apply ev_un); (walk_at "dv ev"); with_reducible exact d_neg)
  | ((with_reducible apply a_tup); (walk_at "dv ea"); (walk_at "dv sz"))
  | ((with_reducible apply a_lst); (walk_at "dv ea"); (walk_at "dv sz"))
  | ((with_reducible apply v_ftop (by assumption)); walk_at "dv ev")
  | ((with_reducible apply v_fbot (by assumption)); walk_at "dv ev")
  | ((with_reducible apply ev_cb); (walk_at "dv ea"); (walk_at "dv rcp"))
  | ((with_reducible apply a_and); (walk_at "dv ev"); (intro _; walk_at "dv ev"))
  | ((with_reducible apply a_or); (walk_at "dv ev"); (intro _; walk_at "dv ev"))
  | ((with_reducible apply ev_notV); walk_at "dv ev")
  | walk_at "dv call")
theorem Tx.PART_ {K : PySem.W.Frag} {mg : PySem.Str → Option Value} (T : Tx K mg) : mg "PART" = some (.int partI (Classical.choose T.part)) := Classical.choose_spec T.part
/-! ### texts -/
theorem ofS_app (a b : String) : PySem.Str.ofString (a ++ b) = PySem.Str.ofString a ++ PySem.Str.ofString b := by
  refine PySem.Str.ext' ?_
  rw [PySem.Str.cps_append, PySem.Str.ofString_eq_toList, PySem.Str.ofString_eq_toList, PySem.Str.ofString_eq_toList]
  simp
theorem txt_neg {n : Int} (h : n < 0) : txt n = PySem.Str.ofString "-" ++ txt (0 - n) := by
  unfold txt
  rw [← ofS_app]
  congr 1
  obtain ⟨m, rfl⟩ := Int.eq_negSucc_of_lt_zero h
  rw [show (0 : Int) - Int.negSucc m = ((m + 1 : Nat) : Int) by omega]
  rfl
theorem txt_len {n : Int} {k : Nat} (h : n.natAbs < 2 ^ k) (h0 : 0 < k) : (txt n).length ≤ k + 1 := by
  unfold txt
  rw [PySem.ofString_length]
  exact int_text_length_le h0 (log_lt h h0)
/-- below 10 ^ 60 in size -/
def Sm (n : Int) : Prop := n.natAbs < 10 ^ 60
theorem sm_log {n : Int} (h : Sm n) : n.natAbs < 2 ^ 200 := Nat.lt_trans h (by decide)
theorem sm_len {n : Int} (h : Sm n) : (txt n).length ≤ 201 := txt_len (sm_log h) (by decide)
theorem sm_1920 {n : Int} (h : Sm n) : n.natAbs.log2 < 1920 := Nat.lt_trans (log_lt (sm_log h) (by decide)) (by decide)
theorem line_ge {n : Nat} (h : n ≤ 10000) : n ≤ PySem.sizeLine := Nat.le_trans h (by rw [PySem.sizeLine_eq]; decide)
def S_digits_of (K : PySem.W.Frag) : FS Int where
  arg n := [.int n]
  ok _ n := Sm n
  res n d := d = .str (txt n)
theorem e_empty : PySem.Str.ofString "" = PySem.Str.empty := by decide +kernel
theorem len_sign (b : Bool) : (if b then PySem.Str.ofString "-" else PySem.Str.ofString "").length ≤ 1 := by cases b <;> decide +kernel
theorem len_e : (PySem.Str.ofString "").length = 0 := by decide +kernel
theorem txt_sign (n : Int) : ((PySem.Str.empty ++ (if decide (n < 0) = true then PySem.Str.ofString "-" else PySem.Str.ofString "")) ++ txt (if decide (0 ≤ n) = true then n else 0 - n)) ++ PySem.Str.ofString "" = txt n := by
  rw [e_empty, PySem.Str.append_empty, PySem.Str.empty_append]
  by_cases h : n < 0
  · rw [if_pos (decide_eq_true h), if_neg (by simpa using h), ← txt_neg h]
  · rw [if_neg (by simpa using h), if_pos (by simpa using h), PySem.Str.empty_append]
theorem f_digits_of {P : Program} {w : World} {K : PySem.W.Frag} {mg : PySem.Str → Option Value} {base : Heap} (T : Tx K mg) {fd : FuncData} (F : FunD K d_digits_of.name d_digits_of.qual d_digits_of.params d_digits_of.body d_digits_of.scope (d_digits_of.dvs K) (d_digits_of.kws K) (d_digits_of.at_ K) fd) : FnG P w K mg base CX0 1 (d_digits_of.at_ K) fd ["number"] ((S_digits_of K).sp K) := by
  have nd := sc_digits_of.nd
  refine fn_g F sc_digits_of (FS.len fun x => by first | rfl | (cases x <;> rfl) | (obtain ⟨_, x⟩ := x; cases x <;> rfl)) fun cdv A fr s H vs Q E hr h => ⟨_, PSs.nox (pss_cons (ps_par (i := 1) (j := 2) rfl nd rfl rfl (by decide) rfl rfl (pa_cons (pe_ifExp (pt_cmpR o_ge (pv 0) pe_int (nomark _)) (pv 0) (pe_op o_sub pe_int (pv 0))) (pa_cons pe_str pa_nil)) rfl)
      (pss_cons (ps_while PassesOwn.never (pt_cmpR o_ge (pv 1) (pe_glob (v := .int partI) rfl T.PART_ ⟨_, rfl⟩) (nomark _)) pss_never)
      (pss_cons (ps_set (i := 4) nd rfl (Or.inl rfl) (pe_ifExp (pt_cmpR o_lt (pv 0) pe_int (nomark _)) pe_str pe_str))
      (pss_one (ps_ret (pe_joined (PJ.cons (pe_fmt (pv 4)) (PJ.cons (pe_fmt (pv 1)) (PJ.cons (pe_fmt (pv 2)) PJ.nil))))))))), FS.body h fun x W ok => ?_⟩
  try dsimp only [cxOf, Cx.nox, Cx.blk]
  have hs : Sm x := ok
  refine at_ [some (.int x), none, none, none, none] rfl ?_
  apply b_par (a := .int (if decide (0 ≤ x) = true then x else 0 - x)) (b := .str (PySem.Str.ofString ""))
  · apply ea_cons
    · refine (a_ifD (p := decide (0 ≤ x)) (a := .int x) (b := .int (0 - x)) ?_ (fun _ => ?_) fun _ => ?_).to ?_
      · walk_at "dv et"
      · walk_at "dv ev"
      · walk_at "dv ev"
      · split <;> rfl
    · walk_at "dv ea"
  have hl : Sm (if decide (0 ≤ x) = true then x else 0 - x) := by
    unfold Sm at hs ⊢
    split <;> omega
  have hlt : ¬ partI ≤ (if decide (0 ≤ x) = true then x else 0 - x) := by
    have h1 : (if decide (0 ≤ x) = true then x else 0 - x).natAbs < 10 ^ 60 := hl
    have e : partI = ((10 ^ 60 : Nat) : Int) := by decide
    omega
  have hsg := txt_sign x
  generalize (if decide (0 ≤ x) = true then x else 0 - x) = y at hl hlt hsg
  refine q_while (fun m cs Δ => cs = [] ∧ Δ = [some (.int x), some (.int y), some (.str (PySem.Str.ofString "")), none, none]) (fun cs Δ => cs = [] ∧ Δ = [some (.int x), some (.int y), some (.str (PySem.Str.ofString "")), none, none]) 0 ⟨rfl, rfl⟩ ?_ ?_
  · rintro m cs' Δ' ⟨rfl, rfl⟩
    refine ⟨fun z => z = decide (partI ≤ y), ?_, fun e => ?_, fun e => ?_⟩
    · walk_at "dv et"
    · exact absurd (of_decide_eq_true e.symm) hlt
    · exact ⟨rfl, rfl⟩
  rintro cs' Δ' ⟨rfl, rfl⟩
  apply b_asg (d := .str (if decide (x < 0) = true then PySem.Str.ofString "-" else PySem.Str.ofString ""))
  · refine (a_ifD (p := decide (x < 0)) (a := .str (PySem.Str.ofString "-")) (b := .str (PySem.Str.ofString "")) ?_ (fun _ => ?_) fun _ => ?_).to ?_
    · walk_at "dv et"
    · walk_at "dv ev"
    · walk_at "dv ev"
    · split <;> rfl
  have ls := len_sign (decide (x < 0))
  have ly := sm_len hl
  have y9 := sm_1920 hl
  generalize (if decide (x < 0) = true then PySem.Str.ofString "-" else PySem.Str.ofString "") = sg at ls hsg
  apply b_retD (d := .str (txt x))
  · rw [← hsg]
    apply d_joined
    have l0 : PySem.Str.empty.length = 0 := by decide +kernel
    refine j_cons (d_fmtS (a_var rfl) (line_ge (by omega))) (line_ge (by rw [strLen_append]; omega)) ?_
    refine j_cons (d_fmtI (a_var rfl) y9) (line_ge (by rw [strLen_append, strLen_append]; omega)) ?_
    refine j_cons (d_fmtS (a_var rfl) (line_ge (by rw [len_e]; omega))) (line_ge (by rw [strLen_append, strLen_append, strLen_append, len_e]; omega)) ?_
    exact j_nil
  · rfl
theorem g_digits_of {P : Program} {w : World} {K : PySem.W.Frag} {mg : PySem.Str → Option Value} {base : Heap} (T : Tx K mg) : CxG P w K mg base CX0 (He.ga K "digits_of") 1 1 [] ((S_digits_of K).sp K) idv := by
  obtain ⟨fd, F⟩ := T.c.def_ 2 (d := d_digits_of) rfl
  exact ⟨fd, _, _, f_digits_of T F, kb_plain F 1 [] (fun us _ => us) (fun a _ => a) fun _ _ _ _ _ _ us ws h1 h2 => match us, h1, ws, h2 with | [_], _, [], _ => rfl⟩
theorem k_digits_of {X : Cx} {K : PySem.W.Frag} {mg : PySem.Str → Option Value} {j : Nat} (T : Tx K mg) (hr : RoomG j X.A) (hj : 1 ≤ j := by decide) (hX : AtX X K mg := by exact ⟨rfl, rfl⟩) : CanG X (.ref (He.ga K "digits_of")) [] (rFn 1 0 ((S_digits_of K).sp K) idv E0) := by
  obtain ⟨rfl, rfl⟩ := hX
  exact can_cx (g_digits_of T) (hr.le hj) pass0
theorem v_digits {c : Ct} {cs : Cells} {Δ : Sts} {tr : TA} {n : Int} (h : EVL c cs Δ tr [.int n]) (hs : Sm n) : EVD c cs Δ (tG (rFn 1 0 ((S_digits_of c.K).sp c.K) idv E0) tr tNil) (.str (txt n)) := ev_fs n h ea_nil gives_id hs (.inr fun _ z => z)
/-! ### str, repr -/
def shw (q : Rat) : PySem.Str := if q.den = 1 then txt q.num else txt q.num ++ PySem.Str.ofString "/" ++ txt q.den
def S_Ratio___str__ (K : PySem.W.Frag) : FS Rat where
  arg q := [rat K q]
  ok _ q := Sm q.num ∧ Sm q.den
  res q d := d = .str (shw q)
theorem f_Ratio___str__ {P : Program} {w : World} {K : PySem.W.Frag} {mg : PySem.Str → Option Value} {base : Heap} (T : Tx K mg) {fd : FuncData} (F : FunD K d_Ratio___str__.name d_Ratio___str__.qual d_Ratio___str__.params d_Ratio___str__.body d_Ratio___str__.scope (d_Ratio___str__.dvs K) (d_Ratio___str__.kws K) (d_Ratio___str__.at_ K) fd) : FnG P w K mg base CX0 2 (d_Ratio___str__.at_ K) fd ["self"] ((S_Ratio___str__ K).sp K) := by
  have nd := sc_Ratio___str__.nd
  refine fn_g F sc_Ratio___str__ (FS.len fun x => by first | rfl | (cases x <;> rfl) | (obtain ⟨_, x⟩ := x; cases x <;> rfl)) fun cdv A fr s H vs Q E hr h => ⟨_, PSs.nox (pss_cons (ps_if (pt_cmpR (x_eq (j := 1) T hr) (x_fld T (pv 0) rfl) pe_int (nomark _)) (pss_one (ps_ret (pe_joined1 (pe_fmt (pe_g (ks := []) rfl (T.g_ "digits_of") (T.k_ "digits_of") (k_digits_of (j := 1) T hr) (pa_cons (x_fld T (pv 0) rfl) pa_nil) pk_nil))))) pss_nil)
      (pss_one (ps_ret (pe_joined (PJ.cons (pe_fmt (pe_g (ks := []) rfl (T.g_ "digits_of") (T.k_ "digits_of") (k_digits_of (j := 1) T hr) (pa_cons (x_fld T (pv 0) rfl) pa_nil) pk_nil)) (PJ.cons pe_str (PJ.cons (pe_fmt (pe_g (ks := []) rfl (T.g_ "digits_of") (T.k_ "digits_of") (k_digits_of (j := 1) T hr) (pa_cons (x_fld T (pv 0) rfl) pa_nil) pk_nil)) PJ.nil))))))), FS.body h fun x W ok => ?_⟩
  try dsimp only [cxOf, Cx.nox, Cx.blk]
  obtain ⟨h1, h2⟩ := ok
  have l1 := sm_len h1
  have l2 := sm_len h2
  refine at_ [some (rat K x)] rfl ?_
  apply b_when
  · walk_at "dv et"
  · intro e
    have hd : x.den = 1 := by have := of_decide_eq_true e; omega
    apply b_retD (d := .str (txt x.num))
    · refine d_fmtS (v_digits (ea_cons ?_ ea_nil) h1) (line_ge (by omega))
      walk_at "dv ev"
    · show Dat.str _ = .str (shw x)
      unfold shw
      rw [if_pos hd]
  · intro e
    have hd : ¬ x.den = 1 := by have := of_decide_eq_false e; omega
    apply b_retD (d := .str (shw x))
    · unfold shw
      rw [if_neg hd]
      have e0 : PySem.Str.empty ++ txt x.num = txt x.num := PySem.Str.empty_append _
      have l0 : (PySem.Str.ofString "/").length = 1 := by decide +kernel
      apply d_joined
      refine j_cons (d_fmtS (v_digits (ea_cons ?_ ea_nil) h1) (line_ge (by omega))) (line_ge (by rw [e0]; omega)) ?_
      · walk_at "dv ev"
      refine j_cons ev_str (line_ge (by rw [strLen_append, e0]; omega)) ?_
      refine j_cons (d_fmtS (v_digits (ea_cons ?_ ea_nil) h2) (line_ge (by omega))) (line_ge (by rw [strLen_append, strLen_append, e0]; omega)) ?_
      · walk_at "dv ev"
      rw [e0]
      exact j_nil
    · rfl
def rpq (q : Rat) : PySem.Str := PySem.Str.ofString "Ratio(" ++ txt q.num ++ PySem.Str.ofString ", " ++ txt q.den ++ PySem.Str.ofString ")"
def S_Ratio___repr__ (K : PySem.W.Frag) : FS Rat where
  arg q := [rat K q]
  ok _ q := Sm q.num ∧ Sm q.den
  res q d := d = .str (rpq q)
theorem f_Ratio___repr__ {P : Program} {w : World} {K : PySem.W.Frag} {mg : PySem.Str → Option Value} {base : Heap} (T : Tx K mg) {fd : FuncData} (F : FunD K d_Ratio___repr__.name d_Ratio___repr__.qual d_Ratio___repr__.params d_Ratio___repr__.body d_Ratio___repr__.scope (d_Ratio___repr__.dvs K) (d_Ratio___repr__.kws K) (d_Ratio___repr__.at_ K) fd) : FnG P w K mg base CX0 2 (d_Ratio___repr__.at_ K) fd ["self"] ((S_Ratio___repr__ K).sp K) := by
  have nd := sc_Ratio___repr__.nd
  refine fn_g F sc_Ratio___repr__ (FS.len fun x => by first | rfl | (cases x <;> rfl) | (obtain ⟨_, x⟩ := x; cases x <;> rfl)) fun cdv A fr s H vs Q E hr h => ⟨_, PSs.nox (pss_one (ps_ret (pe_joined (PJ.cons pe_str (PJ.cons (pe_fmt (pe_g (ks := []) rfl (T.g_ "digits_of") (T.k_ "digits_of") (k_digits_of (j := 1) T hr) (pa_cons (x_fld T (pv 0) rfl) pa_nil) pk_nil)) (PJ.cons pe_str (PJ.cons (pe_fmt (pe_g (ks := []) rfl (T.g_ "digits_of") (T.k_ "digits_of") (k_digits_of (j := 1) T hr) (pa_cons (x_fld T (pv 0) rfl) pa_nil) pk_nil)) (PJ.cons pe_str PJ.nil)))))))), FS.body h fun x W ok => ?_⟩
  try dsimp only [cxOf, Cx.nox, Cx.blk]
  obtain ⟨h1, h2⟩ := ok
  have l1 := sm_len h1
  have l2 := sm_len h2
  refine at_ [some (rat K x)] rfl ?_
  apply b_retD (d := .str (rpq x))
  · unfold rpq
    have e0 : PySem.Str.empty ++ PySem.Str.ofString "Ratio(" = PySem.Str.ofString "Ratio(" := PySem.Str.empty_append _
    have l3 : (PySem.Str.ofString "Ratio(").length = 6 := by decide +kernel
    have l4 : (PySem.Str.ofString ", ").length = 2 := by decide +kernel
    have l5 : (PySem.Str.ofString ")").length = 1 := by decide +kernel
    apply d_joined
    refine j_cons ev_str (line_ge (by rw [e0]; omega)) ?_
    refine j_cons (d_fmtS (v_digits (ea_cons ?_ ea_nil) h1) (line_ge (by omega))) (line_ge (by rw [strLen_append, e0]; omega)) ?_
    · walk_at "dv ev"
    refine j_cons ev_str (line_ge (by rw [strLen_append, strLen_append, e0]; omega)) ?_
    refine j_cons (d_fmtS (v_digits (ea_cons ?_ ea_nil) h2) (line_ge (by omega))) (line_ge (by rw [strLen_append, strLen_append, strLen_append, e0]; omega)) ?_
    · walk_at "dv ev"
    refine j_cons ev_str (line_ge (by rw [strLen_append, strLen_append, strLen_append, strLen_append, e0]; omega)) ?_
    rw [e0]
    exact j_nil
  · rfl
theorem g_Ratio___str__ {P : Program} {w : World} {K : PySem.W.Frag} {mg : PySem.Str → Option Value} {base : Heap} (T : Tx K mg) : CxG P w K mg base CX0 (He.ma K (He.ga K "Ratio") "__str__") 2 1 [] ((S_Ratio___str__ K).sp K) idv := by
  obtain ⟨fd, F⟩ := T.c.def_ 22 (d := d_Ratio___str__) rfl
  exact ⟨fd, _, _, f_Ratio___str__ T F, kb_plain F 1 [] (fun us _ => us) (fun a _ => a) fun _ _ _ _ _ _ us ws h1 h2 => match us, h1, ws, h2 with | [_], _, [], _ => rfl⟩
theorem k_Ratio___str__ {X : Cx} {K : PySem.W.Frag} {mg : PySem.Str → Option Value} {j : Nat} (T : Tx K mg) (hr : RoomG j X.A) (hj : 2 ≤ j := by decide) (hX : AtX X K mg := by exact ⟨rfl, rfl⟩) : CanG X (.ref (He.ma K (He.ga K "Ratio") "__str__")) [] (rFn 1 0 ((S_Ratio___str__ K).sp K) idv E0) := by
  obtain ⟨rfl, rfl⟩ := hX
  exact can_cx (g_Ratio___str__ T) (hr.le hj) pass0
theorem g_Ratio___repr__ {P : Program} {w : World} {K : PySem.W.Frag} {mg : PySem.Str → Option Value} {base : Heap} (T : Tx K mg) : CxG P w K mg base CX0 (He.ma K (He.ga K "Ratio") "__repr__") 2 1 [] ((S_Ratio___repr__ K).sp K) idv := by
  obtain ⟨fd, F⟩ := T.c.def_ 23 (d := d_Ratio___repr__) rfl
  exact ⟨fd, _, _, f_Ratio___repr__ T F, kb_plain F 1 [] (fun us _ => us) (fun a _ => a) fun _ _ _ _ _ _ us ws h1 h2 => match us, h1, ws, h2 with | [_], _, [], _ => rfl⟩
theorem k_Ratio___repr__ {X : Cx} {K : PySem.W.Frag} {mg : PySem.Str → Option Value} {j : Nat} (T : Tx K mg) (hr : RoomG j X.A) (hj : 2 ≤ j := by decide) (hX : AtX X K mg := by exact ⟨rfl, rfl⟩) : CanG X (.ref (He.ma K (He.ga K "Ratio") "__repr__")) [] (rFn 1 0 ((S_Ratio___repr__ K).sp K) idv E0) := by
  obtain ⟨rfl, rfl⟩ := hX
  exact can_cx (g_Ratio___repr__ T) (hr.le hj) pass0
end DV

set_option Elab.async false
set_option autoImplicit false
set_option linter.all false
set_option maxRecDepth 100000
set_option maxHeartbeats 4000000
namespace DV
open PySem PySem.Spec PyProof.Rows L2
/-! ### tactics: evaluate what stands there -/
local macro_rules | `(tactic| walk_at "dv sz") => `(tactic| first | assumption | exact cm_nn (by assumption) (by assumption) (by decide) | exact cm_nd (by assumption) (by assumption) (by decide) | exact cm_dn (by assumption) (by assumption) (by decide) | exact cm_dd (by assumption) (by assumption) (by decide) | decide | omega | (simp; done))
local macro_rules | `(tactic| walk_at "dv rop") => `(tactic| first
  | with_reducible exact d_add | with_reducible exact d_sub | with_reducible exact d_lt | with_reducible exact d_le | with_reducible exact d_gt | with_reducible exact d_ge
  | with_reducible exact d_eqI | with_reducible exact d_neI | with_reducible exact d_eqS | with_reducible exact d_neS | with_reducible exact d_eqB | with_reducible exact d_neB | with_reducible exact d_isB
  | ((with_reducible apply d_mul); walk_at "dv sz") | ((with_reducible apply d_fd); walk_at "dv sz") | ((with_reducible apply d_mod); walk_at "dv sz") | ((with_reducible apply d_pow); walk_at "dv sz")
  | ((with_reducible apply d_ixL); exact rfl) | ((with_reducible apply d_ixT); exact rfl)
  | ((with_reducible apply d_addL); walk_at "dv sz") | ((with_reducible apply d_addS); walk_at "dv sz"))
local macro_rules | `(tactic| walk_at "dv rcp") => `(tactic| first
  | with_reducible exact d_abs | with_reducible exact d_max | with_reducible exact d_min | with_reducible exact d_intI | with_reducible exact d_intB | with_reducible exact d_lenL | with_reducible exact d_lenT | with_reducible exact d_tupL | with_reducible exact d_tupT
  | ((with_reducible apply d_str); walk_at "dv sz") | ((with_reducible apply d_divmod); walk_at "dv sz"))
local macro_rules | `(tactic| walk_at "dv ea") => `(tactic| first
  | with_reducible exact ea_nil
  | ((with_reducible apply ea_cons); (walk_at "dv ev"); (walk_at "dv ea")))
local macro_rules | `(tactic| walk_at "dv et") => `(tactic| first
  | ((with_reducible apply et_not); walk_at "dv et")
  | ((with_reducible apply et_and); (walk_at "dv et"); (intro _; walk_at "dv et"))
  | ((with_reducible apply et_or); (walk_at "dv et"); (intro _; walk_at "dv et"))
  | ((with_reducible apply et_testD); walk_at "dv ev")
  | ((with_reducible apply et_BD); walk_at "dv ev"))
local macro_rules | `(tactic| walk_at "dv call") => `(tactic| fail "no call")
local macro_rules | `(tactic| walk_at "dv ev") => `(tactic| first
  | with_reducible exact ev_int | with_reducible exact ev_str | with_reducible exact ev_bl | with_reducible exact ev_non | with_reducible exact ev_obj
  | ((with_reducible apply a_var); exact rfl)
  | ((with_reducible apply ev_op); (walk_at "dv ev"); (walk_at "dv ev"); (walk_at "dv rop"))
  | ((with_reducible apply ev_un); (walk_at "dv ev"); with_reducible exact d_neg)
  | ((with_reducible apply a_tup); (walk_at "dv ea"); (walk_at "dv sz"))
  | ((with_reducible apply a_lst); (walk_at "dv ea"); (walk_at "dv sz"))
  | ((with_reducible apply v_ftop (by assumption)); walk_at "dv ev")
  | ((with_reducible apply v_fbot (by assumption)); walk_at "dv ev")
  | ((with_reducible apply ev_cb); (walk_at "dv ea"); (walk_at "dv rcp"))
  | ((with_reducible apply a_and); (walk_at "dv ev"); (intro _; walk_at "dv ev"))
  | ((with_reducible apply a_or); (walk_at "dv ev"); (intro _; walk_at "dv ev"))
  | ((with_reducible apply ev_notV); walk_at "dv ev")
  | walk_at "dv call")
section
variable {K : PySem.W.Frag} {mg : PySem.Str → Option Value}
theorem Tx.ob (T : Tx K mg) (nm : String) (m r : PySem.Str) (h1 : PySem.dunder nm = m := by decide +kernel) (h2 : dunderR nm = r := by decide +kernel) (hm : m ∈ msx := by decide +kernel) (hr : r ∈ msx := by decide +kernel) (hn : nm ∈ (["add", "sub", "mul"] : List String) := by decide) : OwnB K (cR K) nm (He.ma K (cR K) m) (some (.ref (He.ma K (cR K) r))) := by
  subst h1 h2
  have a := T.m_Ratio _ hm
  have b := T.m_Ratio _ hr
  obtain ⟨c1, c2⟩ := T.ex1.intf nm hn
  exact ⟨a.at_, a.fn, b.at_, .inr ⟨_, rfl⟩, Option.isSome_iff_exists.mp c1, Option.isSome_iff_exists.mp c2⟩
theorem Tx.om (T : Tx K mg) (m : PySem.Str) (hm : m ∈ msx := by decide +kernel) : OwnM K (cR K) m (He.ma K (cR K) m) := OwnM.of (T.m_Ratio m hm)
theorem Tx.omr (T : Tx K mg) (nm : String) (r : PySem.Str) (h2 : dunderR nm = r := by decide +kernel) (hm : r ∈ msx := by decide +kernel) : OwnM K (cR K) (dunderR nm) (He.ma K (cR K) r) := by
  subst h2
  exact OwnM.of (T.m_Ratio _ hm)
end
/-! ### operators of any operands -/
section
variable (K : PySem.W.Frag)
abbrev r2 (S : PySem.W.Frag → FS (Rat × Num)) : RC := rFn 2 0 ((S K).sp K) idv E0
abbrev r1 (S : PySem.W.Frag → FS Rat) : RC := rFn 1 0 ((S K).sp K) idv E0
def uAdd : R2 := fun x y H Q => bAdd K x y H Q ∨ rOwnC (cR K) (r2 K S_Ratio___add__) x y H Q ∨ rOwnI (cR K) (r2 K S_Ratio___add__) x y H Q ∨ rOwnR (cR K) (r2 K S_Ratio___radd__) x y H Q
def uSub : R2 := fun x y H Q => bSub x y H Q ∨ rOwnC (cR K) (r2 K S_Ratio___sub__) x y H Q ∨ rOwnI (cR K) (r2 K S_Ratio___sub__) x y H Q ∨ rOwnR (cR K) (r2 K S_Ratio___rsub__) x y H Q
def uMul : R2 := fun x y H Q => bMul x y H Q ∨ rOwnC (cR K) (r2 K S_Ratio___mul__) x y H Q ∨ rOwnI (cR K) (r2 K S_Ratio___mul__) x y H Q ∨ rOwnR (cR K) (r2 K S_Ratio___rmul__) x y H Q
def uEq : R2 := fun x y H Q => bEq K x y H Q ∨ rOwnC (cR K) (r2 K S_Ratio___eq__) x y H Q ∨ rOwnI (cR K) (r2 K S_Ratio___eq__) x y H Q ∨ rOwnR (cR K) (r2 K S_Ratio___eq__) x y H Q
def uNe : R2 := fun x y H Q => bNe K x y H Q ∨ rOwnNe (cR K) (r2 K S_Ratio___eq__) x y H Q
def uNeg : V → Hp → VK → Prop := fun x H Q => bNeg x H Q ∨ rOwn1 (cR K) (r1 K S_Ratio___neg__) x H Q
def uStr : List V → Hp → VK → Prop := fun x H Q => bStr x H Q ∨ rOwnS (cR K) (r1 K S_Ratio___str__) x H Q
def uRepr : List V → Hp → VK → Prop := fun x H Q => rReprD K x H Q ∨ rOwnS (cR K) (r1 K S_Ratio___repr__) x H Q
end
section
variable {X : Cx} {j : Nat}
theorem u_add {K : PySem.W.Frag} {mg : PySem.Str → Option Value} (T : Tx K mg) (hr : RoomG j X.A) (hj : 6 ≤ j := by decide) (hX : AtX X K mg := by exact ⟨rfl, rfl⟩) : OpR X (binaryOp .Add) (uAdd K) := by
  obtain ⟨rfl, rfl⟩ := hX
  exact
  o_add.or ((op_ownC (op := .Add) T.ex1.own (T.ob "add" "__add__" "__radd__") (k_Ratio___add__ T hr (by omega))).or ((op_ownI (op := .Add) T.ex1.own (T.ob "add" "__add__" "__radd__") (k_Ratio___add__ T hr (by omega))).or (op_ownR (op := .Add) intNo_add T.ex1.own (T.ob "add" "__add__" "__radd__") (T.omr "add" "__radd__") (k_Ratio___radd__ T hr (by omega)))))
theorem u_sub {K : PySem.W.Frag} {mg : PySem.Str → Option Value} (T : Tx K mg) (hr : RoomG j X.A) (hj : 6 ≤ j := by decide) (hX : AtX X K mg := by exact ⟨rfl, rfl⟩) : OpR X (binaryOp .Sub) (uSub K) := by
  obtain ⟨rfl, rfl⟩ := hX
  exact
  o_sub.or ((op_ownC (op := .Sub) T.ex1.own (T.ob "sub" "__sub__" "__rsub__") (k_Ratio___sub__ T hr (by omega))).or ((op_ownI (op := .Sub) T.ex1.own (T.ob "sub" "__sub__" "__rsub__") (k_Ratio___sub__ T hr (by omega))).or (op_ownR (op := .Sub) intNo_sub T.ex1.own (T.ob "sub" "__sub__" "__rsub__") (T.omr "sub" "__rsub__") (k_Ratio___rsub__ T hr (by omega)))))
theorem u_mul {K : PySem.W.Frag} {mg : PySem.Str → Option Value} (T : Tx K mg) (hr : RoomG j X.A) (hj : 6 ≤ j := by decide) (hX : AtX X K mg := by exact ⟨rfl, rfl⟩) : OpR X (binaryOp .Mult) (uMul K) := by
  obtain ⟨rfl, rfl⟩ := hX
  exact
  o_mul.or ((op_ownC (op := .Mult) T.ex1.own (T.ob "mul" "__mul__" "__rmul__") (k_Ratio___mul__ T hr (by omega))).or ((op_ownI (op := .Mult) T.ex1.own (T.ob "mul" "__mul__" "__rmul__") (k_Ratio___mul__ T hr (by omega))).or (op_ownR (op := .Mult) intNo_mul T.ex1.own (T.ob "mul" "__mul__" "__rmul__") (T.omr "mul" "__rmul__") (k_Ratio___rmul__ T hr (by omega)))))
theorem u_eq {K : PySem.W.Frag} {mg : PySem.Str → Option Value} (T : Tx K mg) (hr : RoomG j X.A) (hj : 6 ≤ j := by decide) (hX : AtX X K mg := by exact ⟨rfl, rfl⟩) : OpR X (compareOp .Eq) (uEq K) := by
  obtain ⟨rfl, rfl⟩ := hX
  have hu : X.A.units < cLine := by have := hr.r.un; omega
  exact (o_eq hr).or ((op_eqOwnC hu (T.om "__eq__") (k_Ratio___eq__ T hr (by omega))).or ((op_eqOwnI hu T.ex1.own (T.om "__eq__") (k_Ratio___eq__ T hr (by omega))).or (op_eqOwnR hu T.ex1.own (T.om "__eq__") (k_Ratio___eq__ T hr (by omega)))))
theorem u_ne {K : PySem.W.Frag} {mg : PySem.Str → Option Value} (T : Tx K mg) (hr : RoomG j X.A) (hj : 6 ≤ j := by decide) (hX : AtX X K mg := by exact ⟨rfl, rfl⟩) : OpR X (compareOp .NotEq) (uNe K) := by
  obtain ⟨rfl, rfl⟩ := hX
  obtain ⟨fd, ps, g, F, hb⟩ := (g_Ratio___eq__ (P := X.prog) (w := X.w) (base := X.base) T).ex
  exact (o_ne hr).or (op_neOwnC F (hr.le (by omega)) hb pass0 (T.om "__eq__") T.ex1.ne T.ex1.ob)
theorem u_neg {K : PySem.W.Frag} {mg : PySem.Str → Option Value} (T : Tx K mg) (hr : RoomG j X.A) (hj : 6 ≤ j := by decide) (hX : AtX X K mg := by exact ⟨rfl, rfl⟩) : UnR X (unaryOp .USub) (uNeg K) := by
  obtain ⟨rfl, rfl⟩ := hX
  exact UnR.or o_neg (un_ownNeg (T.om "__neg__") (k_Ratio___neg__ T hr (by omega)))
theorem u_str {K : PySem.W.Frag} {mg : PySem.Str → Option Value} (T : Tx K mg) (hr : RoomG j X.A) (hj : 6 ≤ j := by decide) (hX : AtX X K mg := by exact ⟨rfl, rfl⟩) : CallR X (.type "str") (uStr K) := by
  obtain ⟨rfl, rfl⟩ := hX
  obtain ⟨fd, ps, g, F, hb⟩ := (g_Ratio___str__ (P := X.prog) (w := X.w) (base := X.base) T).ex
  exact CallR.or' k_str (call_strOwn F (hr.le (by omega)) hb pass0 (T.om "__str__"))
theorem u_repr {K : PySem.W.Frag} {mg : PySem.Str → Option Value} (T : Tx K mg) (hr : RoomG j X.A) (hj : 6 ≤ j := by decide) (hX : AtX X K mg := by exact ⟨rfl, rfl⟩) : CallR X (.builtin "repr") (uRepr K) := by
  obtain ⟨rfl, rfl⟩ := hX
  obtain ⟨fd, ps, g, F, hb⟩ := (g_Ratio___repr__ (P := X.prog) (w := X.w) (base := X.base) T).ex
  exact CallR.or' (call_reprD hr) (call_reprOwn F (hr.le (by omega)) hb pass0 (T.om "__repr__"))
end
section
variable {c : Ct} {cs : Cells} {q r : Rat} {n i j : Int} {a b : Dat}
theorem w_addR (hq : Bd 3500 q) (h : Bd 3500 r) : ROD c cs (uAdd c.K) (rat c.K q) (rat c.K r) (rat c.K (q + r)) := ROP.inr (ROP.inl (d_ownC (S := S_Ratio___add__ c.K) (q, .r r) rfl ⟨hq, h⟩ (.inr fun _ z => z)))
theorem w_addI (hq : Bd 3500 q) (h : Bd 3500 (n : Rat)) : ROD c cs (uAdd c.K) (rat c.K q) (.int n) (rat c.K (q + n)) := ROP.inr (ROP.inr (ROP.inl (d_ownI (S := S_Ratio___add__ c.K) (q, .i n) rfl ⟨hq, h⟩ (.inr fun _ z => z))))
theorem w_addL (hq : Bd 3500 q) (h : Bd 3500 (n : Rat)) : ROD c cs (uAdd c.K) (.int n) (rat c.K q) (rat c.K (n + q)) := ROP.inr (ROP.inr (ROP.inr (d_ownR (S := S_Ratio___radd__ c.K) (q, .i n) rfl ⟨hq, h⟩ (.inr fun _ z => z))))
theorem w_subR (hq : Bd 3500 q) (h : Bd 3500 r) : ROD c cs (uSub c.K) (rat c.K q) (rat c.K r) (rat c.K (q - r)) := ROP.inr (ROP.inl (d_ownC (S := S_Ratio___sub__ c.K) (q, .r r) rfl ⟨hq, h⟩ (.inr fun _ z => z)))
theorem w_subI (hq : Bd 3500 q) (h : Bd 3500 (n : Rat)) : ROD c cs (uSub c.K) (rat c.K q) (.int n) (rat c.K (q - n)) := ROP.inr (ROP.inr (ROP.inl (d_ownI (S := S_Ratio___sub__ c.K) (q, .i n) rfl ⟨hq, h⟩ (.inr fun _ z => z))))
theorem w_subL (hq : Bd 3500 q) (h : Bd 3500 (n : Rat)) : ROD c cs (uSub c.K) (.int n) (rat c.K q) (rat c.K (n - q)) := ROP.inr (ROP.inr (ROP.inr (d_ownR (S := S_Ratio___rsub__ c.K) (q, .i n) rfl ⟨hq, h⟩ (.inr fun _ z => z))))
theorem w_mulR (hq : Bd 3500 q) (h : Bd 3500 r) : ROD c cs (uMul c.K) (rat c.K q) (rat c.K r) (rat c.K (q * r)) := ROP.inr (ROP.inl (d_ownC (S := S_Ratio___mul__ c.K) (q, .r r) rfl ⟨hq, h⟩ (.inr fun _ z => z)))
theorem w_mulI (hq : Bd 3500 q) (h : Bd 3500 (n : Rat)) : ROD c cs (uMul c.K) (rat c.K q) (.int n) (rat c.K (q * n)) := ROP.inr (ROP.inr (ROP.inl (d_ownI (S := S_Ratio___mul__ c.K) (q, .i n) rfl ⟨hq, h⟩ (.inr fun _ z => z))))
theorem w_mulL (hq : Bd 3500 q) (h : Bd 3500 (n : Rat)) : ROD c cs (uMul c.K) (.int n) (rat c.K q) (rat c.K (n * q)) := ROP.inr (ROP.inr (ROP.inr (d_ownR (S := S_Ratio___rmul__ c.K) (q, .i n) rfl ⟨hq, h⟩ (.inr fun _ z => z))))
theorem w_eqR : ROD c cs (uEq c.K) (rat c.K q) (rat c.K r) (.bl (decide (q = r))) := ROP.inr (ROP.inl (d_ownC (S := S_Ratio___eq__ c.K) (q, .r r) rfl trivial (.inr fun _ z => z)))
theorem w_eqI : ROD c cs (uEq c.K) (rat c.K q) (.int n) (.bl false) := ROP.inr (ROP.inr (ROP.inl (d_ownI (S := S_Ratio___eq__ c.K) (q, .i n) rfl trivial (.inr fun _ z => z))))
theorem w_eqL : ROD c cs (uEq c.K) (.int n) (rat c.K q) (.bl false) := ROP.inr (ROP.inr (ROP.inr (d_ownR (S := S_Ratio___eq__ c.K) (q, .i n) rfl trivial (.inr fun _ z => z))))
theorem w_neR : ROD c cs (uNe c.K) (rat c.K q) (rat c.K r) (.bl (!decide (q = r))) := ROP.inr (d_ownNe (S := S_Ratio___eq__ c.K) (k := decide (q = r)) (q, .r r) rfl trivial (.inr fun _ z => z) fun _ z => z)
theorem w_ii {P : Dat → Prop} (h : ROP c cs (bAdd c.K) a b P) : ROP c cs (uAdd c.K) a b P := ROP.inl h
theorem w_is {P : Dat → Prop} (h : ROP c cs bSub a b P) : ROP c cs (uSub c.K) a b P := ROP.inl h
theorem w_im {P : Dat → Prop} (h : ROP c cs bMul a b P) : ROP c cs (uMul c.K) a b P := ROP.inl h
theorem w_ie {P : Dat → Prop} (h : ROP c cs (bEq c.K) a b P) : ROP c cs (uEq c.K) a b P := ROP.inl h
theorem w_in {P : Dat → Prop} (h : ROP c cs (bNe c.K) a b P) : ROP c cs (uNe c.K) a b P := ROP.inl h
theorem w_neg : RUP c cs (uNeg c.K) (.int i) (fun d => d = .int (-i)) := RUP.inl d_neg
theorem w_negR (hq : Bd 3500 q) : RUP c cs (uNeg c.K) (rat c.K q) (fun d => d = rat c.K (-q)) := RUP.inr (d_own1 (S := S_Ratio___neg__ c.K) q rfl hq (.inr fun _ z => z))
theorem w_strI (h : i.natAbs.log2 < 1920) : RCP c cs (uStr c.K) [.int i] (fun d => d = .str (txt i)) := RCP.inl (d_str h)
theorem w_strR (h1 : Sm q.num) (h2 : Sm q.den) : RCP c cs (uStr c.K) [rat c.K q] (fun d => d = .str (shw q)) := RCP.inr (d_ownS (S := S_Ratio___str__ c.K) q rfl ⟨h1, h2⟩ (.inr fun _ z => z) fun _ z => z)
theorem w_reprR (h1 : Sm q.num) (h2 : Sm q.den) : RCP c cs (uRepr c.K) [rat c.K q] (fun d => d = .str (rpq q)) := RCP.inr (d_ownS (S := S_Ratio___repr__ c.K) q rfl ⟨h1, h2⟩ (.inr fun _ z => z) fun _ z => z)
theorem w_reprL {ds : List Dat} (h : rpr (.lst ds) = true) (hl : (toP (.lst ds)).shown.length ≤ PySem.sizeLine) : RCP c cs (uRepr c.K) [.lst ds] (fun d => d = .str (toP (.lst ds)).shown) := RCP.inl (d_repr h hl)
end
end DV

set_option Elab.async false
set_option autoImplicit false
set_option linter.all false
set_option maxRecDepth 100000
set_option maxHeartbeats 4000000
namespace DV
open PySem PySem.Spec PyProof.Rows L2
/-! ### tactics: evaluate what stands there -/
local macro_rules | `(tactic| walk_at "dv sz") => `(tactic| first | assumption | exact cm_nn (by assumption) (by assumption) (by decide) | exact cm_nd (by assumption) (by assumption) (by decide) | exact cm_dn (by assumption) (by assumption) (by decide) | exact cm_dd (by assumption) (by assumption) (by decide) | decide | omega | (simp; done))
local macro_rules | `(tactic| walk_at "dv rop") => `(tactic| first
  | with_reducible exact d_add | with_reducible exact d_sub | with_reducible exact d_lt | with_reducible exact d_le | with_reducible exact d_gt | with_reducible exact d_ge
  | with_reducible exact d_eqI | with_reducible exact d_neI | with_reducible exact d_eqS | with_reducible exact d_neS | with_reducible exact d_eqB | with_reducible exact d_neB | with_reducible exact d_isB
  | ((with_reducible apply d_mul); walk_at "dv sz") | ((with_reducible apply d_fd); walk_at "dv sz") | ((with_reducible apply d_mod); walk_at "dv sz") | ((with_reducible apply d_pow); walk_at "dv sz")
  | ((with_reducible apply d_ixL); exact rfl) | ((with_reducible apply d_ixT); exact rfl)
  | ((with_reducible apply d_addL); walk_at "dv sz") | ((with_reducible apply d_addS); walk_at "dv sz"))
local macro_rules | `(tactic| walk_at "dv rcp") => `(tactic| first
  | with_reducible exact d_abs | with_reducible exact d_max | with_reducible exact d_min | with_reducible exact d_intI | with_reducible exact d_intB | with_reducible exact d_lenL | with_reducible exact d_lenT | with_reducible exact d_tupL | with_reducible exact d_tupT
  | ((with_reducible apply d_str); walk_at "dv sz") | ((with_reducible apply d_divmod); walk_at "dv sz"))
local macro_rules | `(tactic| walk_at "dv ea") => `(tactic| first
  | with_reducible exact ea_nil
  | ((with_reducible apply ea_cons); (walk_at "dv ev"); (walk_at "dv ea")))
local macro_rules | `(tactic| walk_at "dv et") => `(tactic| first
  | ((with_reducible apply et_not); walk_at "dv et")
  | ((with_reducible apply et_and); (walk_at "dv et"); (intro _; walk_at "dv et"))
  | ((with_reducible apply et_or); (walk_at "dv et"); (intro _; walk_at "dv et"))
  | ((with_reducible apply et_testD); walk_at "dv ev")
  | ((with_reducible apply et_BD); walk_at "dv ev"))
local macro_rules | `(tactic| walk_at "dv call") => `(tactic| fail "no call")
local macro_rules | `(tactic| walk_at "dv ev") => `(tactic| first
  | with_reducible exact ev_int | with_reducible exact ev_str | with_reducible exact ev_bl | with_reducible exact ev_non | with_reducible exact ev_obj
  | ((with_reducible apply a_var); exact rfl)
  | ((with_reducible apply ev_op); (walk_at "dv ev"); (walk_at "dv ev"); (walk_at "dv rop"))
  | ((with_reducible apply ev_un); (walk_at "dv ev"); with_reducible exact d_neg)
  | ((with_reducible apply a_tup); (walk_at "dv ea"); (walk_at "dv sz"))
  | ((with_reducible apply a_lst); (walk_at "dv ea"); (walk_at "dv sz"))
  | ((with_reducible apply v_ftop (by assumption)); walk_at "dv ev")
  | ((with_reducible apply v_fbot (by assumption)); walk_at "dv ev")
  | ((with_reducible apply ev_cb); (walk_at "dv ea"); (walk_at "dv rcp"))
  | ((with_reducible apply a_and); (walk_at "dv ev"); (intro _; walk_at "dv ev"))
  | ((with_reducible apply a_or); (walk_at "dv ev"); (intro _; walk_at "dv ev"))
  | ((with_reducible apply ev_notV); walk_at "dv ev")
  | walk_at "dv call")
section
variable {c : Ct} {cs : Cells} {Δ : Sts} {te : TE} {q : Rat} {n : Int} {mg : PySem.Str → Option Value}
theorem isiR (m : Num) (T : Tx c.K mg) (h : EVD c cs Δ te (m.d c.K)) : EVD c cs Δ (tCB (bIsi c.K) (tCons te (tCons (tC (.ref (cR c.K))) tNil))) (.bl (!isI m)) := by
  cases m with
  | i n => exact ev_cb (ea_cons h (ea_cons ev_obj ea_nil)) (d_isiC (d := .int n) trivial T.ex1.ir)
  | r q => exact ev_cb (ea_cons h (ea_cons ev_obj ea_nil)) (d_isiC (d := rat c.K q) T.isi T.rr)
theorem isiRr (T : Tx c.K mg) (h : EVD c cs Δ te (rat c.K q)) : EVD c cs Δ (tCB (bIsi c.K) (tCons te (tCons (tC (.ref (cR c.K))) tNil))) (.bl true) := isiR (.r q) T h
end
def S_is_number (K : PySem.W.Frag) : FS Num where
  arg n := [n.d K]
  res _ d := d = .bl true
theorem f_is_number {P : Program} {w : World} {K : PySem.W.Frag} {mg : PySem.Str → Option Value} {base : Heap} (T : Tx K mg) {fd : FuncData} (F : FunD K d_is_number.name d_is_number.qual d_is_number.params d_is_number.body d_is_number.scope (d_is_number.dvs K) (d_is_number.kws K) (d_is_number.at_ K) fd) : FnG P w K mg base CX0 2 (d_is_number.at_ K) fd ["value"] ((S_is_number K).sp K) := by
  have nd := sc_is_number.nd
  refine fn_g F sc_is_number (FS.len fun x => by first | rfl | (cases x <;> rfl) | (obtain ⟨_, x⟩ := x; cases x <;> rfl)) fun cdv A fr s H vs Q E hr h => ⟨_, PSs.nox (pss_one (ps_ret (pe_or (pe_g (ks := []) rfl (T.g_ "is_integer") (T.k_ "is_integer") (k_is_integer (j := 1) T hr) (pa_cons (pv 0) pa_nil) pk_nil) (pe_one (pe_callB (x_isi T) rfl (T.f_ "isinstance") PyProof.Rows.boot_isinstance (pa_cons (pv 0) (pa_cons (pe_glob (v := .ref _) rfl (T.g_ "Ratio") rfl) pa_nil))))))), FS.body h fun x W ok => ?_⟩
  try dsimp only [cxOf, Cx.nox, Cx.blk]
  refine at_ [some (x.d K)] rfl ?_
  apply b_retD
  · apply a_or
    · exact v_is_integer x (ea_cons (a_var rfl) ea_nil)
    · intro _
      exact isiR x T (a_var rfl)
  · show Dat.bl _ = .bl true
    cases x <;> rfl
theorem g_is_number {P : Program} {w : World} {K : PySem.W.Frag} {mg : PySem.Str → Option Value} {base : Heap} (T : Tx K mg) : CxG P w K mg base CX0 (He.ga K "is_number") 2 1 [] ((S_is_number K).sp K) idv := by
  obtain ⟨fd, F⟩ := T.c.def_ 25 (d := d_is_number) rfl
  exact ⟨fd, _, _, f_is_number T F, kb_plain F 1 [] (fun us _ => us) (fun a _ => a) fun _ _ _ _ _ _ us ws h1 h2 => match us, h1, ws, h2 with | [_], _, [], _ => rfl⟩
theorem k_is_number {X : Cx} {K : PySem.W.Frag} {mg : PySem.Str → Option Value} {j : Nat} (T : Tx K mg) (hr : RoomG j X.A) (hj : 2 ≤ j := by decide) (hX : AtX X K mg := by exact ⟨rfl, rfl⟩) : CanG X (.ref (He.ga K "is_number")) [] (rFn 1 0 ((S_is_number K).sp K) idv E0) := by
  obtain ⟨rfl, rfl⟩ := hX
  exact can_cx (g_is_number T) (hr.le hj) pass0
def S_ratio_of (K : PySem.W.Frag) : FS Num where
  arg n := [n.d K]
  res n d := d = rat K n.v
theorem f_ratio_of {P : Program} {w : World} {K : PySem.W.Frag} {mg : PySem.Str → Option Value} {base : Heap} (T : Tx K mg) {fd : FuncData} (F : FunD K d_ratio_of.name d_ratio_of.qual d_ratio_of.params d_ratio_of.body d_ratio_of.scope (d_ratio_of.dvs K) (d_ratio_of.kws K) (d_ratio_of.at_ K) fd) : FnG P w K mg base CX0 4 (d_ratio_of.at_ K) fd ["number"] ((S_ratio_of K).sp K) := by
  have nd := sc_ratio_of.nd
  refine fn_g F sc_ratio_of (FS.len fun x => by first | rfl | (cases x <;> rfl) | (obtain ⟨_, x⟩ := x; cases x <;> rfl)) fun cdv A fr s H vs Q E hr h => ⟨_, PSs.nox (pss_one (ps_ret (pe_ifExp (pt_val (pe_callB (x_isi T) rfl (T.f_ "isinstance") PyProof.Rows.boot_isinstance (pa_cons (pv 0) (pa_cons (pe_glob (v := .ref _) rfl (T.g_ "Ratio") rfl) pa_nil)))) (pv 0) (pe_g (ks := []) rfl (T.g_ "Ratio") (T.k_ "Ratio") (mk_Ratio_1 (j := 3) T hr) (pa_cons (pv 0) pa_nil) pk_nil)))), FS.body h fun x W ok => ?_⟩
  try dsimp only [cxOf, Cx.nox, Cx.blk]
  refine at_ [some (x.d K)] rfl ?_
  apply b_retD (d := rat K x.v)
  · apply a_if
    · exact et_BD (isiR x T (a_var rfl))
    · intro e
      cases x with
      | i n => cases e
      | r q => exact a_var rfl
    · intro e
      cases x with
      | i n => exact v_mk1 (ea_cons (a_var rfl) ea_nil)
      | r q => cases e
  · rfl
theorem g_ratio_of {P : Program} {w : World} {K : PySem.W.Frag} {mg : PySem.Str → Option Value} {base : Heap} (T : Tx K mg) : CxG P w K mg base CX0 (He.ga K "ratio_of") 4 1 [] ((S_ratio_of K).sp K) idv := by
  obtain ⟨fd, F⟩ := T.c.def_ 26 (d := d_ratio_of) rfl
  exact ⟨fd, _, _, f_ratio_of T F, kb_plain F 1 [] (fun us _ => us) (fun a _ => a) fun _ _ _ _ _ _ us ws h1 h2 => match us, h1, ws, h2 with | [_], _, [], _ => rfl⟩
theorem k_ratio_of {X : Cx} {K : PySem.W.Frag} {mg : PySem.Str → Option Value} {j : Nat} (T : Tx K mg) (hr : RoomG j X.A) (hj : 4 ≤ j := by decide) (hX : AtX X K mg := by exact ⟨rfl, rfl⟩) : CanG X (.ref (He.ga K "ratio_of")) [] (rFn 1 0 ((S_ratio_of K).sp K) idv E0) := by
  obtain ⟨rfl, rfl⟩ := hX
  exact can_cx (g_ratio_of T) (hr.le hj) pass0
def S_want_number (K : PySem.W.Frag) : FS Num where
  arg n := [n.d K]
  res n d := d = rat K n.v
theorem f_want_number {P : Program} {w : World} {K : PySem.W.Frag} {mg : PySem.Str → Option Value} {base : Heap} (T : Tx K mg) {fd : FuncData} (F : FunD K d_want_number.name d_want_number.qual d_want_number.params d_want_number.body d_want_number.scope (d_want_number.dvs K) (d_want_number.kws K) (d_want_number.at_ K) fd) : FnG P w K mg base CX0 5 (d_want_number.at_ K) fd ["value"] ((S_want_number K).sp K) := by
  have nd := sc_want_number.nd
  refine fn_g F sc_want_number (FS.len fun x => by first | rfl | (cases x <;> rfl) | (obtain ⟨_, x⟩ := x; cases x <;> rfl)) fun cdv A fr s H vs Q E hr h => ⟨_, PSs.nox (pss_cons (ps_if (pt_not (pt_val (pe_g (ks := []) rfl (T.g_ "is_number") (T.k_ "is_number") (k_is_number (j := 4) T hr) (pa_cons (pv 0) pa_nil) pk_nil))) (pss_one ps_never) pss_nil)
      (pss_one (ps_ret (pe_g (ks := []) rfl (T.g_ "ratio_of") (T.k_ "ratio_of") (k_ratio_of (j := 4) T hr) (pa_cons (pv 0) pa_nil) pk_nil)))), FS.body h fun x W ok => ?_⟩
  try dsimp only [cxOf, Cx.nox, Cx.blk]
  refine at_ [some (x.d K)] rfl ?_
  apply b_no
  · apply et_not
    apply et_BD
    exact ev_fs (S := S_is_number K) x (ea_cons (a_var rfl) ea_nil) ea_nil gives_id trivial (.inr fun _ z => z)
  · rfl
  apply b_retD
  · exact ev_fs (S := S_ratio_of K) x (ea_cons (a_var rfl) ea_nil) ea_nil gives_id trivial (.inr fun _ z => z)
  · rfl
theorem g_want_number {P : Program} {w : World} {K : PySem.W.Frag} {mg : PySem.Str → Option Value} {base : Heap} (T : Tx K mg) : CxG P w K mg base CX0 (He.ga K "want_number") 5 1 [] ((S_want_number K).sp K) idv := by
  obtain ⟨fd, F⟩ := T.c.def_ 27 (d := d_want_number) rfl
  exact ⟨fd, _, _, f_want_number T F, kb_plain F 1 [] (fun us _ => us) (fun a _ => a) fun _ _ _ _ _ _ us ws h1 h2 => match us, h1, ws, h2 with | [_], _, [], _ => rfl⟩
theorem k_want_number {X : Cx} {K : PySem.W.Frag} {mg : PySem.Str → Option Value} {j : Nat} (T : Tx K mg) (hr : RoomG j X.A) (hj : 5 ≤ j := by decide) (hX : AtX X K mg := by exact ⟨rfl, rfl⟩) : CanG X (.ref (He.ga K "want_number")) [] (rFn 1 0 ((S_want_number K).sp K) idv E0) := by
  obtain ⟨rfl, rfl⟩ := hX
  exact can_cx (g_want_number T) (hr.le hj) pass0
/-- a sum of ratios -/
def sumR (l : List Rat) : Rat := l.foldl (· + ·) 0
theorem sumR_more (l : List Rat) (q : Rat) : sumR (l ++ [q]) = sumR l + q := by
  unfold sumR
  rw [List.foldl_append]
  rfl
theorem bd_zero : Bd 1 (0 : Rat) := ⟨by decide, by decide⟩
theorem bd_sum {l : List Rat} (h : ∀ q ∈ l, Bd 100 q) : ∀ i, i ≤ l.length → Bd (1 + 101 * i) (sumR (l.take i))
  | 0, _ => bd_zero
  | i + 1, hi => by
    have e : l[i]? = some l[i] := List.getElem?_eq_getElem hi
    rw [take_more e, sumR_more]
    refine bd_le (bd_add (bd_sum h i (by omega)) (h _ (List.getElem_mem hi))) (by omega)
def S_total_of (K : PySem.W.Frag) : FS (List Rat) where
  arg l := [.lst (l.map (rat K))]
  ok _ l := l.length ≤ 20 ∧ ∀ q ∈ l, Bd 100 q
  res l d := d = rat K (sumR l)
theorem f_total_of {P : Program} {w : World} {K : PySem.W.Frag} {mg : PySem.Str → Option Value} {base : Heap} (T : Tx K mg) {fd : FuncData} (F : FunD K d_total_of.name d_total_of.qual d_total_of.params d_total_of.body d_total_of.scope (d_total_of.dvs K) (d_total_of.kws K) (d_total_of.at_ K) fd) : FnG P w K mg base CX0 7 (d_total_of.at_ K) fd ["ratios"] ((S_total_of K).sp K) := by
  have nd := sc_total_of.nd
  refine fn_g F sc_total_of (FS.len fun x => by first | rfl | (cases x <;> rfl) | (obtain ⟨_, x⟩ := x; cases x <;> rfl)) fun cdv A fr s H vs Q E hr h => ⟨_, PSs.nox (pss_cons (ps_set (i := 1) nd rfl (Or.inl rfl) (pe_g (ks := []) rfl (T.g_ "Ratio") (T.k_ "Ratio") (mk_Ratio_1 (j := 6) T hr) (pa_cons pe_int pa_nil) pk_nil))
      (pss_cons (ps_for PassesOwn.never rfl (x_any T (pv 0)) (pg_name (i := 2) nd rfl (Or.inl rfl)) (pss_one (ps_set (i := 1) nd rfl (Or.inl rfl) (pe_op (u_add (j := 6) T hr) (pv 1) (pv 2)))))
      (pss_one (ps_ret (pv 1))))), FS.body h fun x W ok => ?_⟩
  try dsimp only [cxOf, Cx.nox, Cx.blk]
  obtain ⟨hl, hb⟩ := ok
  refine at_ [some (.lst (x.map (rat K))), none, none] rfl ?_
  apply b_asg (d := rat K (sumR (x.take 0)))
  · exact v_mk1 (a := 0) (ea_cons ev_int ea_nil)
  refine q_forD (ds := x.map (rat K)) (fun i cs Δ => cs = [] ∧ ∃ o, Δ = [some (.lst (x.map (rat K))), some (rat K (sumR (x.take i))), o]) (f_anyL (a_var rfl)) ⟨rfl, none, rfl⟩ ?_ ?_
  · rintro i d cs' Δ' hd ⟨rfl, o, rfl⟩
    rw [List.getElem?_map] at hd
    obtain ⟨q, hq, rfl⟩ := Option.map_eq_some_iff.mp hd
    have hi : i < x.length := (List.getElem?_eq_some_iff.mp hq).1
    apply s_asg (P := fun d => d = rat K (sumR (x.take i) + q))
    · exact ev_op (a_var rfl) (a_var rfl) (w_addR (bd_le (bd_sum hb i (by omega)) (by omega)) (bd_le (hb q (List.mem_of_getElem? hq)) (by decide)))
    · rintro d rfl
      refine ⟨rfl, some (rat K q), ?_⟩
      rw [take_more hq, sumR_more]
      rfl
  · rintro cs' Δ' ⟨rfl, o, rfl⟩
    apply b_retD
    · exact a_var rfl
    · show rat K _ = rat K (sumR x)
      rw [List.length_map, List.take_length]
theorem g_total_of {P : Program} {w : World} {K : PySem.W.Frag} {mg : PySem.Str → Option Value} {base : Heap} (T : Tx K mg) : CxG P w K mg base CX0 (He.ga K "total_of") 7 1 [] ((S_total_of K).sp K) idv := by
  obtain ⟨fd, F⟩ := T.c.def_ 28 (d := d_total_of) rfl
  exact ⟨fd, _, _, f_total_of T F, kb_plain F 1 [] (fun us _ => us) (fun a _ => a) fun _ _ _ _ _ _ us ws h1 h2 => match us, h1, ws, h2 with | [_], _, [], _ => rfl⟩
theorem k_total_of {X : Cx} {K : PySem.W.Frag} {mg : PySem.Str → Option Value} {j : Nat} (T : Tx K mg) (hr : RoomG j X.A) (hj : 7 ≤ j := by decide) (hX : AtX X K mg := by exact ⟨rfl, rfl⟩) : CanG X (.ref (He.ga K "total_of")) [] (rFn 1 0 ((S_total_of K).sp K) idv E0) := by
  obtain ⟨rfl, rfl⟩ := hX
  exact can_cx (g_total_of T) (hr.le hj) pass0
theorem num_inj {K : PySem.W.Frag} {a b : Num} (h : a.d K = b.d K) : a.v = b.v := by
  cases a with
  | i n => cases b with
    | i m =>
      have e : n = m := by
        have := h
        simp only [Num.d, Dat.int.injEq] at this
        exact this
      rw [e]
    | r q => exact nomatch h
  | r p => cases b with
    | i m => exact nomatch h
    | r q =>
      have e : p.num = q.num ∧ (p.den : Int) = (q.den : Int) := by
        have := h
        simp only [Num.d, rat, Dat.ins.injEq, List.cons.injEq, Dat.int.injEq, and_true, true_and] at this
        exact this
      exact Rat.ext e.1 (Int.ofNat.inj e.2)
def S_Ratio_total (K : PySem.W.Frag) : FS (Bool × List Num) where
  arg x := [.obj (.ref (cR K)), if x.1 then .lst (x.2.map (Num.d K)) else .tup (x.2.map (Num.d K))]
  ok _ x := x.2.length ≤ 20 ∧ ∀ n ∈ x.2, Bd 100 n.v
  res x d := d = rat K (sumR (x.2.map Num.v))
theorem f_Ratio_total {P : Program} {w : World} {K : PySem.W.Frag} {mg : PySem.Str → Option Value} {base : Heap} (T : Tx K mg) {fd : FuncData} (F : FunD K d_Ratio_total.name d_Ratio_total.qual d_Ratio_total.params d_Ratio_total.body d_Ratio_total.scope (d_Ratio_total.dvs K) (d_Ratio_total.kws K) (d_Ratio_total.at_ K) fd) : FnG P w K mg base CX0 8 (d_Ratio_total.at_ K) fd ["cls", "numbers"] ((S_Ratio_total K).sp K) := by
  have nd := sc_Ratio_total.nd
  refine fn_g F sc_Ratio_total (FS.len fun x => by first | rfl | (cases x <;> rfl) | (obtain ⟨_, x⟩ := x; cases x <;> rfl)) fun cdv A fr s H vs Q E hr h => ⟨_, PSs.nox (pss_cons (ps_if (pt_not (pt_val (pe_g (ks := []) rfl (T.g_ "is_list") (T.k_ "is_list") (k_is_list (j := 7) T hr) (pa_cons (pv 1) pa_nil) pk_nil))) (pss_one ps_never) pss_nil)
      (pss_one (ps_ret (pe_g (ks := []) rfl (T.g_ "total_of") (T.k_ "total_of") (k_total_of (j := 7) T hr) (pa_cons (pe_lc (own := [("number", 2)]) (g := gName 2) (tt := tYes) rfl nd (x_any T (pv 1)) (blkOk_by (N := N_Ratio_total) (sc := defScope s_Ratio_total) (by decide +kernel)) (fun _ _ _ _ _ => pg_name (i := 2) nd rfl (Or.inl rfl)) (fun _ _ _ _ _ => pts_nil) (fun _ _ _ _ _ => (pe_g (ks := []) rfl (T.g_ "want_number") (T.k_ "want_number") (k_want_number (j := 7) T hr) (pa_cons (pv 2) pa_nil) pk_nil))) pa_nil) pk_nil)))), FS.body h fun x W ok => ?_⟩
  try dsimp only [cxOf, Cx.nox, Cx.blk]
  obtain ⟨b, ns⟩ := x
  obtain ⟨hl, hb⟩ := ok
  have hl : ns.length ≤ 20 := hl
  refine at_ [some (.obj (.ref (cR K))), some (if b then .lst (ns.map (Num.d K)) else .tup (ns.map (Num.d K))), none] rfl ?_
  apply b_no
  · apply et_not
    apply et_BD
    exact ev_fs (S := S_is_list K) (b, ns.map (Num.d K)) (ea_cons (a_var rfl) ea_nil) ea_nil gives_id trivial (.inr fun _ z => z)
  · rfl
  have go : EVD ⟨K, W, E, (S_Ratio_total K).xp (b, ns)⟩ [] [some (.obj (.ref (cR K))), some (if b then .lst (ns.map (Num.d K)) else .tup (ns.map (Num.d K))), none] (tLc (iAny K (tVar 1)) (gName 2) tYes (tG (rFn 1 0 ((S_want_number K).sp K) idv E0) (tCons (tVar 2) tNil) tNil) [2]) (.lst (ns.map fun n => rat K n.v)) := by
    refine en_mapD ns (Num.d K) (fun n => rat K n.v) ?_ (by omega) (by simp) (fun x _ y _ e => by rw [num_inj e]) fun n _ => ?_
    · cases b with
      | true => exact f_anyL (a_var rfl)
      | false => exact f_anyT (a_var rfl)
    · exact ev_fs (S := S_want_number K) n (ea_cons (a_var rfl) ea_nil) ea_nil gives_id trivial (.inr fun _ z => z)
  apply b_retD
  · refine ev_fs (S := S_total_of K) (ns.map Num.v) (ea_cons ?_ ea_nil) ea_nil gives_id ⟨by simpa using hl, fun q hq => ?_⟩ (.inr fun _ z => z)
    · rw [List.map_map]
      exact go
    · obtain ⟨n, hn, rfl⟩ := List.mem_map.mp hq
      exact hb n hn
  · rfl
theorem g_Ratio_total {P : Program} {w : World} {K : PySem.W.Frag} {mg : PySem.Str → Option Value} {base : Heap} (T : Tx K mg) : CxG P w K mg base CX0 (He5.wf K (He.ga K "Ratio") "classmethod" "total") 8 2 [] ((S_Ratio_total K).sp K) idv := by
  obtain ⟨fd, F⟩ := T.c.def_ 9 (d := d_Ratio_total) rfl
  exact ⟨fd, _, _, f_Ratio_total T F, kb_plain F 2 [] (fun us _ => us) (fun a _ => a) fun _ _ _ _ _ _ us ws h1 h2 => match us, h1, ws, h2 with | [_, _], _, [], _ => rfl⟩
theorem k_Ratio_total {X : Cx} {K : PySem.W.Frag} {mg : PySem.Str → Option Value} {j : Nat} (T : Tx K mg) (hr : RoomG j X.A) (hj : 8 ≤ j := by decide) (hX : AtX X K mg := by exact ⟨rfl, rfl⟩) : CanG X (.ref (He5.wf K (He.ga K "Ratio") "classmethod" "total")) [] (rFn 2 0 ((S_Ratio_total K).sp K) idv E0) := by
  obtain ⟨rfl, rfl⟩ := hX
  exact can_cx (g_Ratio_total T) (hr.le hj) pass0
theorem k_Ratio_total_numbers {X : Cx} {K : PySem.W.Frag} {mg : PySem.Str → Option Value} {j : Nat} (T : Tx K mg) (hr : RoomG j X.A) (hj : 8 ≤ j := by decide) (hX : AtX X K mg := by exact ⟨rfl, rfl⟩) : CanG X (.ref (He5.wf K (He.ga K "Ratio") "classmethod" "total")) ["numbers"] (rFn 1 1 ((S_Ratio_total K).sp K) (fun vs zs => vs ++ zs) E0) := by
  obtain ⟨rfl, rfl⟩ := hX
  obtain ⟨fd, F⟩ := T.c.def_ 9 (d := d_Ratio_total) rfl
  exact can_fn (f_Ratio_total T F) (hr.le hj) (kb_plain F 1 ["numbers"] (fun us ws => us ++ ws) (fun a b => a.append b) fun _ _ _ _ _ _ us ws h1 h2 => match us, h1, ws, h2 with | [_], _, [_], _ => rfl) pass0
section
variable {c : Ct} {cs : Cells} {Δ : Sts} {to : TE} {tr tk : TA} {n : Int} {q r : Rat}
theorem v_total (b : Bool) (ns : List Num) (h : EVL c cs Δ tr [if b then .lst (ns.map (Num.d c.K)) else .tup (ns.map (Num.d c.K))]) (hl : ns.length ≤ 20) (hb : ∀ n ∈ ns, Bd 100 n.v) : EVD c cs Δ (tGC (cR c.K) (rFn 2 0 ((S_Ratio_total c.K).sp c.K) idv E0) (tC (.ref (cR c.K))) tr tNil) (rat c.K (sumR (ns.map Num.v))) :=
  ev_fsC (S := S_Ratio_total c.K) (b, ns) ev_obj h ea_nil gives_id ⟨hl, hb⟩ (.inr fun _ z => z)
theorem v_totalK (b : Bool) (ns : List Num) (h : EVL c cs Δ tk [if b then .lst (ns.map (Num.d c.K)) else .tup (ns.map (Num.d c.K))]) (hl : ns.length ≤ 20) (hb : ∀ n ∈ ns, Bd 100 n.v) : EVD c cs Δ (tGC (cR c.K) (rFn 1 1 ((S_Ratio_total c.K).sp c.K) (fun vs zs => vs ++ zs) E0) (tC (.ref (cR c.K))) tNil tk) (rat c.K (sumR (ns.map Num.v))) :=
  ev_fsC (S := S_Ratio_total c.K) (b, ns) ev_obj ea_nil h (fun G vs zs r1 r2 => r1.app r2) ⟨hl, hb⟩ (.inr fun _ z => z)
/-! methods -/
theorem v_over (m : Num) (ho : EVD c cs Δ to (rat c.K q)) (h : EVL c cs Δ tr [m.d c.K]) (hq : Bd 3500 q) (hm : Bd 3500 m.v) (h0 : m.v.num ≠ 0) : EVD c cs Δ (tGM (cR c.K) "over" (rFn 2 0 ((S_Ratio_over c.K).sp c.K) idv E0) to tr tNil) (rat c.K (q / m.v)) :=
  ev_fsM (S := S_Ratio_over c.K) (q, m) ho h ea_nil gives_id ⟨hq, hm, h0⟩ (.inr fun _ z => z)
theorem v_overK (m : Num) (ho : EVD c cs Δ to (rat c.K q)) (h : EVL c cs Δ tk [m.d c.K]) (hq : Bd 3500 q) (hm : Bd 3500 m.v) (h0 : m.v.num ≠ 0) : EVD c cs Δ (tGM (cR c.K) "over" (rFn 1 1 ((S_Ratio_over c.K).sp c.K) (fun vs zs => vs ++ zs) E0) to tNil tk) (rat c.K (q / m.v)) :=
  ev_fsM (S := S_Ratio_over c.K) (q, m) ho ea_nil h (fun G vs zs r1 r2 => r1.app r2) ⟨hq, hm, h0⟩ (.inr fun _ z => z)
theorem v_size (ho : EVD c cs Δ to (rat c.K q)) (hq : Bd 3500 q) : EVD c cs Δ (tGM (cR c.K) "size" (rFn 1 0 ((S_Ratio_size c.K).sp c.K) idv E0) to tNil tNil) (rat c.K (absR q)) :=
  ev_fsM (S := S_Ratio_size c.K) q ho ea_nil ea_nil gives_id hq (.inr fun _ z => z)
theorem v_most (m : Num) (ho : EVD c cs Δ to (rat c.K q)) (h : EVL c cs Δ tr [m.d c.K]) (hq : Bd 3500 q) (hm : Bd 3500 m.v) : EVD c cs Δ (tGM (cR c.K) "is_at_most" (rFn 2 0 ((S_Ratio_is_at_most c.K).sp c.K) idv E0) to tr tNil) (.bl (decide (q ≤ m.v))) :=
  ev_fsM (S := S_Ratio_is_at_most c.K) (q, m) ho h ea_nil gives_id ⟨hq, hm⟩ (.inr fun _ z => z)
theorem v_below (m : Num) (ho : EVD c cs Δ to (rat c.K q)) (h : EVL c cs Δ tr [m.d c.K]) (hq : Bd 3500 q) (hm : Bd 3500 m.v) : EVD c cs Δ (tGM (cR c.K) "is_below" (rFn 2 0 ((S_Ratio_is_below c.K).sp c.K) idv E0) to tr tNil) (.bl (decide (q < m.v))) :=
  ev_fsM (S := S_Ratio_is_below c.K) (q, m) ho h ea_nil gives_id ⟨hq, hm⟩ (.inr fun _ z => z)
theorem v_belowK (m : Num) (ho : EVD c cs Δ to (rat c.K q)) (h : EVL c cs Δ tk [m.d c.K]) (hq : Bd 3500 q) (hm : Bd 3500 m.v) : EVD c cs Δ (tGM (cR c.K) "is_below" (rFn 1 1 ((S_Ratio_is_below c.K).sp c.K) (fun vs zs => vs ++ zs) E0) to tNil tk) (.bl (decide (q < m.v))) :=
  ev_fsM (S := S_Ratio_is_below c.K) (q, m) ho ea_nil h (fun G vs zs r1 r2 => r1.app r2) ⟨hq, hm⟩ (.inr fun _ z => z)
end
end DV

set_option Elab.async false
set_option autoImplicit false
set_option linter.all false
set_option maxRecDepth 100000
set_option maxHeartbeats 4000000
namespace DV
open PySem PySem.Spec PyProof.Rows L2
/-! ### tactics: evaluate what stands there -/
local macro_rules | `(tactic| walk_at "dv sz") => `(tactic| first | assumption | exact cm_nn (by assumption) (by assumption) (by decide) | exact cm_nd (by assumption) (by assumption) (by decide) | exact cm_dn (by assumption) (by assumption) (by decide) | exact cm_dd (by assumption) (by assumption) (by decide) | decide | omega | (simp; done))
local macro_rules | `(tactic| walk_at "dv rop") => `(tactic| first
  | with_reducible exact d_add | with_reducible exact d_sub | with_reducible exact d_lt | with_reducible exact d_le | with_reducible exact d_gt | with_reducible exact d_ge
  | with_reducible exact d_eqI | with_reducible exact d_neI | with_reducible exact d_eqS | with_reducible exact d_neS | with_reducible exact d_eqB | with_reducible exact d_neB | with_reducible exact d_isB
  | ((with_reducible apply d_mul); walk_at "dv sz") | ((with_reducible apply d_fd); walk_at "dv sz") | ((with_reducible apply d_mod); walk_at "dv sz") | ((with_reducible apply d_pow); walk_at "dv sz")
  | ((with_reducible apply d_ixL); exact rfl) | ((with_reducible apply d_ixT); exact rfl)
  | ((with_reducible apply d_addL); walk_at "dv sz") | ((with_reducible apply d_addS); walk_at "dv sz"))
local macro_rules | `(tactic| walk_at "dv rcp") => `(tactic| first
  | with_reducible exact d_abs | with_reducible exact d_max | with_reducible exact d_min | with_reducible exact d_intI | with_reducible exact d_intB | with_reducible exact d_lenL | with_reducible exact d_lenT | with_reducible exact d_tupL | with_reducible exact d_tupT
  | ((with_reducible apply d_str); walk_at "dv sz") | ((with_reducible apply d_divmod); walk_at "dv sz"))
local macro_rules | `(tactic| walk_at "dv ea") => `(tactic| first
  | with_reducible exact ea_nil
  | ((with_reducible apply ea_cons); (walk_at "dv ev"); (walk_at "dv ea")))
local macro_rules | `(tactic| walk_at "dv et") => `(tactic| first
  | ((with_reducible apply et_not); walk_at "dv et")
  | ((with_reducible apply et_and); (walk_at "dv et"); (intro _; walk_at "dv et"))
  | ((with_reducible apply et_or); (walk_at "dv et"); (intro _; walk_at "dv et"))
  | ((with_reducible apply et_testD); walk_at "dv ev")
  | ((with_reducible apply et_BD); walk_at "dv ev"))
local macro_rules | `(tactic| walk_at "dv call") => `(tactic| fail "no call")
local macro_rules | `(tactic| walk_at "dv ev") => `(tactic| first
  | with_reducible exact ev_int | with_reducible exact ev_str | with_reducible exact ev_bl | with_reducible exact ev_non | with_reducible exact ev_obj
  | ((with_reducible apply a_var); exact rfl)
  | ((with_reducible apply ev_op); (walk_at "dv ev"); (walk_at "dv ev"); (walk_at "dv rop"))
  | ((with_reducible apply ev_un); (walk_at "dv ev"); with_reducible exact d_neg)
  | ((with_reducible apply a_tup); (walk_at "dv ea"); (walk_at "dv sz"))
  | ((with_reducible apply a_lst); (walk_at "dv ea"); (walk_at "dv sz"))
  | ((with_reducible apply v_ftop (by assumption)); walk_at "dv ev")
  | ((with_reducible apply v_fbot (by assumption)); walk_at "dv ev")
  | ((with_reducible apply ev_cb); (walk_at "dv ea"); (walk_at "dv rcp"))
  | ((with_reducible apply a_and); (walk_at "dv ev"); (intro _; walk_at "dv ev"))
  | ((with_reducible apply a_or); (walk_at "dv ev"); (intro _; walk_at "dv ev"))
  | ((with_reducible apply ev_notV); walk_at "dv ev")
  | walk_at "dv call")
/-! ### the pot: a list of two ints of the law's own -/
def potB (b : Int) : Prop := b.natAbs < 2 ^ 40
def Pot (l : Addr) : Wld where
  own a := a = l
  ok H := ∃ a b : Int, H l = some (.lst [.int a, .int b]) ∧ potB b
  has := by
    rintro H ⟨a, b, h, _⟩ c rfl
    rw [h]
    exact nofun
  ext := fun H H' ⟨a, b, h, hb⟩ e => ⟨a, b, e _ _ h, hb⟩
  wr := by
    rintro H p o o' ⟨a, b, h, hb⟩ hp _ _
    exact ⟨a, b, by rw [upd_ne (fun z => hp z.symm)]; exact h, hb⟩
section
variable {K : PySem.W.Frag} {l : Addr} {E : XK} {Xp : Exc → Prop} {cs : Cells} {Δ : Sts} {i : Nat}
theorem Pot.step {G H : Hp} (I : Inn K (Pot l) cs G H) {a b : Int} (hb : potB b) : Step (Pot l) G H G (upd H l (.lst [.int a, .int b])) := by
  have gl : G l = none := I.no l rfl
  refine ⟨Ex.refl _, I.ex.out gl, ⟨a, b, upd_same, hb⟩, fun x o n e => ?_, fun _ _ g => g⟩
  rw [upd_ne n]
  exact e
theorem pot_0 (h : Δ[i]? = some (some (.obj (.ref l)))) : EVP ⟨K, Pot l, E, Xp⟩ cs Δ (tOp (rIx K) (tVar i) (tC (.int 0))) fun d => ∃ a : Int, d = .int a := fun σ G H s I R Q q => by
  obtain ⟨v, h1, h2⟩ := s.at_ i _ h
  obtain ⟨a, b, hl, hb⟩ := I.ok
  exact ⟨v, h1, .inl ⟨l, [.int a, .int b], 0, .int a, h2, rfl, SqL.of hl, rfl, q (.int a) _ G H ⟨a, rfl⟩ (Step.refl I) rfl⟩⟩
theorem pot_1 (h : Δ[i]? = some (some (.obj (.ref l)))) : EVP ⟨K, Pot l, E, Xp⟩ cs Δ (tOp (rIx K) (tVar i) (tC (.int 1))) fun d => ∃ b : Int, d = .int b ∧ potB b := fun σ G H s I R Q q => by
  obtain ⟨v, h1, h2⟩ := s.at_ i _ h
  obtain ⟨a, b, hl, hb⟩ := I.ok
  exact ⟨v, h1, .inl ⟨l, [.int a, .int b], 1, .int b, h2, rfl, SqL.of hl, rfl, q (.int b) _ G H ⟨b, rfl, hb⟩ (Step.refl I) rfl⟩⟩
/-- pot[1] = e -/
theorem q_pot1 {u : TS} {po : Po} {te : TE} (hi : Δ[i]? = some (some (.obj (.ref l)))) (h : EVP ⟨K, Pot l, E, Xp⟩ cs Δ te fun d => ∃ b : Int, d = .int b ∧ potB b) (k : STS ⟨K, Pot l, E, Xp⟩ cs Δ u po) :
    STS ⟨K, Pot l, E, Xp⟩ cs Δ (tSeq (tAsg te (gSub (tVar i) (tC (.int 1)) rSetL)) u) po := fun F G0 H0 σ G H D cu s R e =>
  h σ G H s cu.inn (R.on cu.st) _ fun d v G2 H2 ⟨b, ed, hb⟩ s2 rd => by
    subst ed
    obtain ⟨w, h1, h2⟩ := s.at_ i _ hi
    have cu2 := cu.on s2
    obtain ⟨a0, b0, hl, _⟩ := cu2.inn.ok
    refine ⟨w, h1, l, [.int a0, .int b0], 1, 1, h2, rfl, hl, rfl, ?_⟩
    rw [show v = V.int b from rd]
    have st := Pot.step (a := a0) cu2.inn hb
    exact k F G0 H0 σ G2 _ D (cu2.on st) (s.mono s2.g) R e
/-- pot[0], x = divmod(..) -/
theorem q_pot0 {u : TS} {po : Po} {te : TE} {j : Nat} {P : Int → Int → Prop} (hi : Δ[i]? = some (some (.obj (.ref l)))) (h : EVP ⟨K, Pot l, E, Xp⟩ cs Δ te fun d => ∃ a b : Int, d = .tup [.int a, .int b] ∧ P a b)
    (k : ∀ a b, P a b → STS ⟨K, Pot l, E, Xp⟩ cs (Δ.set j (some (.int b))) u po) : STS ⟨K, Pot l, E, Xp⟩ cs Δ (tSeq (tAsg te (gTup K 2 (gCons (gSub (tVar i) (tC (.int 0)) rSetL) (gCons (gName j) gNil)))) u) po := fun F G0 H0 σ G H D cu s R e =>
  h σ G H s cu.inn (R.on cu.st) _ fun d v G2 H2 ⟨a, b, ed, hp⟩ s2 rd => by
    subst ed
    obtain ⟨t, xs, rfl, ht, rs⟩ := rd
    obtain ⟨x, y, rfl, rx, ry⟩ := rs.two
    obtain ⟨w, h1, h2⟩ := s.at_ i _ hi
    have cu2 := cu.on s2
    obtain ⟨a0, b0, hl, hb⟩ := cu2.inn.ok
    refine ⟨t, [x, y], rfl, ex_t s2.i ht, rfl, x, [y], rfl, w, h1, l, [.int a0, .int b0], 0, 0, h2, rfl, hl, rfl, y, [], rfl, rfl, ?_⟩
    rw [show x = V.int a from rx, show y = V.int b from ry]
    have st := Pot.step (a := a) cu2.inn hb
    exact k a b hp F G0 H0 _ G2 _ D (cu2.on st) ((s.mono s2.g).set (v := V.int b) rfl) R e
theorem b_parP {c : Ct} {tr : TA} {u : TS} {po : Po} {i j : Nat} {PA : Dat → Dat → Prop} (h : EVA c cs Δ tr fun l => ∃ a b, l = [a, b] ∧ PA a b) (k : ∀ a b, PA a b → STS c cs ((Δ.set i (some a)).set j (some b)) u po) : STS c cs Δ (tSeq (tPar i j tr) u) po := fun F G0 H0 σ G H D cu s R e =>
  h σ G H s cu.inn (R.on cu.st) _ fun ds vs G2 H2 ⟨a, b, ed, hp⟩ s2 rd => by
    subst ed
    obtain ⟨x, y, rfl, r1, r2⟩ := rd.two
    exact ⟨x, y, rfl, k a b hp F G0 H0 _ G2 H2 D (cu.on s2) (((s.mono s2.g).set r1).set r2) R e⟩
end
theorem fm_lt {a m : Int} (h : 0 < m) : 0 ≤ a.fmod m ∧ a.fmod m < m := by
  rw [Int.fmod_eq_emod_of_nonneg _ (by omega)]
  exact ⟨Int.emod_nonneg _ (by omega), Int.emod_lt_of_pos _ h⟩
theorem fm_abs {a m : Int} {k : Nat} (h : 0 < m) (hk : m.natAbs ≤ 2 ^ k) : (a.fmod m).natAbs < 2 ^ k := by
  have := fm_lt (a := a) h
  omega
/-! ### _law_draw -/
def S__law_draw (K : PySem.W.Frag) : FS (Addr × Int) where
  arg x := [.obj (.ref x.1), .int x.2]
  ok W x := W = Pot x.1 ∧ 0 < x.2 ∧ x.2.natAbs < 2 ^ 100
  res x d := ∃ i : Int, d = .int i ∧ 0 ≤ i ∧ i < x.2
theorem f__law_draw {P : Program} {w : World} {K : PySem.W.Frag} {mg : PySem.Str → Option Value} {base : Heap} (T : Tx K mg) {fd : FuncData} (F : FunD K d__law_draw.name d__law_draw.qual d__law_draw.params d__law_draw.body d__law_draw.scope (d__law_draw.dvs K) (d__law_draw.kws K) (d__law_draw.at_ K) fd) : FnG P w K mg base CX0 1 (d__law_draw.at_ K) fd ["pot", "size"] ((S__law_draw K).sp K) := by
  have nd := sc__law_draw.nd
  refine fn_g F sc__law_draw (FS.len fun x => by first | rfl | (cases x <;> rfl) | (obtain ⟨_, x⟩ := x; cases x <;> rfl)) fun cdv A fr s H vs Q E hr h => ⟨_, PSs.nox (pss_cons (ps_if (pt_cmpR o_gt (pe_ix (x_ix T) (pv 0) pe_int fun _ _ => rfl) pe_int (nomark _)) (pss_cons (ps_asg (pe_callB k_divmod rfl (T.f_ "divmod") PyProof.Rows.boot_divmod (pa_cons (pe_ix (x_ix T) (pv 0) pe_int fun _ _ => rfl) (pa_cons (pv 1) pa_nil))) (pg_tup rfl (pgs_cons (pg_sub (pv 0) pe_int set_list) (pgs_cons (pg_name (i := 2) nd rfl (Or.inl rfl)) pgs_nil))))
      (pss_one (ps_ret (pv 2)))) pss_nil)
      (pss_cons (ps_asg (pe_op o_mod (pe_callTy k_int rfl (T.f_ "int") PyProof.Rows.boot_int (pa_cons (pe_op (x_add T) (pe_op o_mul (pe_ix (x_ix T) (pv 0) pe_int fun _ _ => rfl) pe_int) pe_int) pa_nil)) pe_int) (pg_sub (pv 0) pe_int set_list))
      (pss_one (ps_ret (pe_op o_mod (pe_callTy k_int rfl (T.f_ "int") PyProof.Rows.boot_int (pa_cons (pe_op o_fd (pe_op o_mod (pe_callTy k_int rfl (T.f_ "int") PyProof.Rows.boot_int (pa_cons (pe_op o_mul (pe_ix (x_ix T) (pv 0) pe_int fun _ _ => rfl) (pe_ix (x_ix T) (pv 0) pe_int fun _ _ => rfl)) pa_nil)) pe_int) pe_int) pa_nil)) (pv 1)))))), FS.body h fun x W ok => ?_⟩
  try dsimp only [cxOf, Cx.nox, Cx.blk]
  obtain ⟨l, z⟩ := x
  obtain ⟨rfl, hz, hb⟩ := ok
  have hz : 0 < z := hz
  refine at_ [some (.obj (.ref l)), some (.int z), none] rfl ?_
  refine q_when (Pb := fun _ => True) ?_ (fun _ => ?_) (fun _ => ?_)
  · refine et_test (evp_op (pot_0 rfl) (Pb := fun _ d => d = .int 0) (fun _ _ => ev_int) ?_)
    rintro _ _ ⟨a, rfl⟩ rfl
    exact fun G H x y I R ra rb Q q => d_gt G H x y I R ra rb Q fun d v G2 H2 hd => q d v G2 H2 ⟨_, hd, trivial⟩
  · refine q_pot0 (P := fun _ b => 0 ≤ b ∧ b < z) rfl ?_ ?_
    · refine evp_cb (PA := fun l' => ∃ a : Int, l' = [.int a, .int z]) ?_ ?_
      · exact (eap_cons (Pa := fun d => ∃ a : Int, d = .int a) (Pr := fun _ l' => l' = [.int z]) (pot_0 rfl) fun d _ => ea_cons (a_var rfl) ea_nil).imp fun l' ⟨d, ds, e, ⟨a, ha⟩, hd⟩ => ⟨a, by rw [e, ha, hd]⟩
      · rintro ds ⟨a, rfl⟩
        have hc : CDivP a z := ⟨hz, PyProof.noPylong_of_log2 (Nat.lt_trans (log_lt hb (by decide)) (by decide))⟩
        exact fun G H xs I R rs Q q => d_divmod hc G H xs I R rs Q fun d v G2 H2 hd => q d v G2 H2 ⟨_, _, hd, Int.emod_nonneg _ (by omega), Int.emod_lt_of_pos _ hz⟩
    · intro a b hp
      apply b_ret (P := fun d => d = .int b)
      · exact a_var rfl
      · rintro d rfl
        exact ⟨b, rfl, hp⟩
  · refine q_pot1 rfl ?_ ?_
    · refine evp_op (Pa := fun d => ∃ b : Int, d = .int b) (Pb := fun _ d => d = .int 2147483563) (evp_cb (PA := fun l' => ∃ b : Int, l' = [.int b]) ?_ ?_) (fun _ _ => ev_int) ?_
      · refine (eap_cons (Pa := fun d => ∃ b : Int, d = .int b) (Pr := fun _ l' => l' = []) ?_ fun _ _ => ea_nil).imp fun l' ⟨d, ds, e, ⟨a, ha⟩, hd⟩ => ⟨a, by rw [e, ha, hd]⟩
        refine evp_op (Pa := fun d => ∃ b : Int, d = .int b) (Pb := fun _ d => d = .int 30007) (evp_op (Pb := fun _ d => d = .int 39379) (pot_1 rfl) (fun _ _ => ev_int) ?_) (fun _ _ => ev_int) ?_
        · rintro _ _ ⟨b, rfl, hb⟩ rfl
          have hm : CMulW b 39379 := cm_of (a := 40) (b := 40) hb (by decide) (by decide)
          exact fun G H x y I R ra rb Q q => d_mul hm G H x y I R ra rb Q fun d v G2 H2 hd => q d v G2 H2 ⟨_, hd⟩
        · rintro _ _ ⟨b, rfl⟩ rfl
          exact fun G H x y I R ra rb Q q => d_add G H x y I R ra rb Q fun d v G2 H2 hd => q d v G2 H2 ⟨_, hd⟩
      · rintro ds ⟨b, rfl⟩
        exact fun G H xs I R rs Q q => d_intI G H xs I R rs Q fun d v G2 H2 hd => q d v G2 H2 ⟨_, hd⟩
      · rintro _ _ ⟨b, rfl⟩ rfl
        exact fun G H x y I R ra rb Q q => d_mod (by decide) G H x y I R ra rb Q fun d v G2 H2 hd => q d v G2 H2 ⟨_, hd, fm_abs (by decide) (by decide)⟩
    · apply b_ret (P := fun d => ∃ i : Int, d = .int i ∧ 0 ≤ i ∧ i < z)
      · refine evp_op (Pa := fun d => ∃ b : Int, d = .int b) (Pb := fun _ d => d = .int z) (evp_cb (PA := fun l' => ∃ b : Int, l' = [.int b]) ?_ ?_) (fun _ _ => a_var rfl) ?_
        · refine (eap_cons (Pa := fun d => ∃ b : Int, d = .int b) (Pr := fun _ l' => l' = []) ?_ fun _ _ => ea_nil).imp fun l' ⟨d, ds, e, ⟨a, ha⟩, hd⟩ => ⟨a, by rw [e, ha, hd]⟩
          refine evp_op (Pa := fun d => ∃ b : Int, d = .int b) (Pb := fun _ d => d = .int 23) (evp_op (Pa := fun d => ∃ b : Int, d = .int b) (Pb := fun _ d => d = .int 2147483549) (evp_cb (PA := fun l' => ∃ b : Int, l' = [.int b]) ?_ ?_) (fun _ _ => ev_int) ?_) (fun _ _ => ev_int) ?_
          · refine (eap_cons (Pa := fun d => ∃ b : Int, d = .int b) (Pr := fun _ l' => l' = []) ?_ fun _ _ => ea_nil).imp fun l' ⟨d, ds, e, ⟨a, ha⟩, hd⟩ => ⟨a, by rw [e, ha, hd]⟩
            refine evp_op (pot_1 rfl) (Pb := fun _ d => ∃ b : Int, d = .int b ∧ potB b) (fun _ _ => pot_1 rfl) ?_
            rintro _ _ ⟨a, rfl, ha⟩ ⟨b, rfl, hb⟩
            have hm : CMulW a b := cm_of ha hb (by decide)
            exact fun G H x y I R ra rb Q q => d_mul hm G H x y I R ra rb Q fun d v G2 H2 hd => q d v G2 H2 ⟨_, hd⟩
          · rintro ds ⟨b, rfl⟩
            exact fun G H xs I R rs Q q => d_intI G H xs I R rs Q fun d v G2 H2 hd => q d v G2 H2 ⟨_, hd⟩
          · rintro _ _ ⟨b, rfl⟩ rfl
            exact fun G H x y I R ra rb Q q => d_mod (by decide) G H x y I R ra rb Q fun d v G2 H2 hd => q d v G2 H2 ⟨_, hd⟩
          · rintro _ _ ⟨b, rfl⟩ rfl
            have hc : CFd b 23 := ⟨by decide, by decide⟩
            exact fun G H x y I R ra rb Q q => d_fd hc G H x y I R ra rb Q fun d v G2 H2 hd => q d v G2 H2 ⟨_, hd⟩
        · rintro ds ⟨b, rfl⟩
          exact fun G H xs I R rs Q q => d_intI G H xs I R rs Q fun d v G2 H2 hd => q d v G2 H2 ⟨_, hd⟩
        · rintro _ _ ⟨b, rfl⟩ rfl
          exact fun G H x y I R ra rb Q q => d_mod (by omega) G H x y I R ra rb Q fun d v G2 H2 hd => q d v G2 H2 ⟨_, hd, fm_lt hz⟩
      · exact fun d h => h
theorem g__law_draw {P : Program} {w : World} {K : PySem.W.Frag} {mg : PySem.Str → Option Value} {base : Heap} (T : Tx K mg) : CxG P w K mg base CX0 (He.ga K "_law_draw") 1 2 [] ((S__law_draw K).sp K) idv := by
  obtain ⟨fd, F⟩ := T.c.def_ 30 (d := d__law_draw) rfl
  exact ⟨fd, _, _, f__law_draw T F, kb_plain F 2 [] (fun us _ => us) (fun a _ => a) fun _ _ _ _ _ _ us ws h1 h2 => match us, h1, ws, h2 with | [_, _], _, [], _ => rfl⟩
theorem k__law_draw {X : Cx} {K : PySem.W.Frag} {mg : PySem.Str → Option Value} {j : Nat} (T : Tx K mg) (hr : RoomG j X.A) (hj : 1 ≤ j := by decide) (hX : AtX X K mg := by exact ⟨rfl, rfl⟩) : CanG X (.ref (He.ga K "_law_draw")) [] (rFn 2 0 ((S__law_draw K).sp K) idv E0) := by
  obtain ⟨rfl, rfl⟩ := hX
  exact can_cx (g__law_draw T) (hr.le hj) pass0
theorem v_draw {K : PySem.W.Frag} {l : Addr} {E : XK} {Xp : Exc → Prop} {cs : Cells} {Δ : Sts} {tr : TA} {z : Int} (h : EVL ⟨K, Pot l, E, Xp⟩ cs Δ tr [.obj (.ref l), .int z]) (hz : 0 < z) (hb : z.natAbs < 2 ^ 100) : EVP ⟨K, Pot l, E, Xp⟩ cs Δ (tG (rFn 2 0 ((S__law_draw K).sp K) idv E0) tr tNil) fun d => ∃ i : Int, d = .int i ∧ 0 ≤ i ∧ i < z :=
  ev_fs (S := S__law_draw K) (l, z) h ea_nil gives_id ⟨rfl, hz, hb⟩ (.inr fun _ z => z)
/-! ### _law_pick -/
def S__law_pick (K : PySem.W.Frag) : FS (Addr × List Dat) where
  arg x := [.obj (.ref x.1), .lst x.2]
  ok W x := W = Pot x.1 ∧ 0 < x.2.length ∧ x.2.length ≤ 1000
  res x d := d ∈ x.2
theorem f__law_pick {P : Program} {w : World} {K : PySem.W.Frag} {mg : PySem.Str → Option Value} {base : Heap} (T : Tx K mg) {fd : FuncData} (F : FunD K d__law_pick.name d__law_pick.qual d__law_pick.params d__law_pick.body d__law_pick.scope (d__law_pick.dvs K) (d__law_pick.kws K) (d__law_pick.at_ K) fd) : FnG P w K mg base CX0 2 (d__law_pick.at_ K) fd ["pot", "some"] ((S__law_pick K).sp K) := by
  have nd := sc__law_pick.nd
  refine fn_g F sc__law_pick (FS.len fun x => by first | rfl | (cases x <;> rfl) | (obtain ⟨_, x⟩ := x; cases x <;> rfl)) fun cdv A fr s H vs Q E hr h => ⟨_, PSs.nox (pss_one (ps_ret (pe_ix (x_ix T) (pv 1) (pe_g (ks := []) rfl (T.g_ "_law_draw") (T.k_ "_law_draw") (k__law_draw (j := 1) T hr) (pa_cons (pv 0) (pa_cons (pe_callB (x_len T) rfl (T.f_ "len") PySem.boot_len (pa_cons (pv 1) pa_nil)) pa_nil)) pk_nil) fun _ _ => rfl))), FS.body h fun x W ok => ?_⟩
  try dsimp only [cxOf, Cx.nox, Cx.blk]
  obtain ⟨l, ds⟩ := x
  obtain ⟨rfl, h0, h1⟩ := ok
  have h0 : 0 < ds.length := h0
  have h1 : ds.length ≤ 1000 := h1
  refine at_ [some (.obj (.ref l)), some (.lst ds)] rfl ?_
  apply b_ret (P := fun d => d ∈ ds)
  · refine evp_op (Pa := fun d => d = .lst ds) (Pb := fun _ d => ∃ i : Int, d = .int i ∧ 0 ≤ i ∧ i < ds.length) (a_var rfl) (fun _ _ => v_draw (z := ds.length) (ea_cons (a_var rfl) (ea_cons (ev_cb (ea_cons (a_var rfl) ea_nil) d_lenL) ea_nil)) (by omega) (Nat.lt_of_le_of_lt (by omega : (ds.length : Int).natAbs ≤ 1000) (by decide))) ?_
    rintro _ _ rfl ⟨i, rfl, hi, hj⟩
    obtain ⟨n, rfl⟩ := Int.eq_ofNat_of_zero_le hi
    have hn : n < ds.length := by omega
    have hg : L2.atI ds (n : Int) = some ds[n] := L2.atI_nat (List.getElem?_eq_getElem hn)
    exact fun G H x y I R ra rb Q q => d_ixL hg G H x y I R ra rb Q fun d v G2 H2 hd => q d v G2 H2 (by rw [hd]; exact List.getElem_mem hn)
  · exact fun d h => h
theorem g__law_pick {P : Program} {w : World} {K : PySem.W.Frag} {mg : PySem.Str → Option Value} {base : Heap} (T : Tx K mg) : CxG P w K mg base CX0 (He.ga K "_law_pick") 2 2 [] ((S__law_pick K).sp K) idv := by
  obtain ⟨fd, F⟩ := T.c.def_ 31 (d := d__law_pick) rfl
  exact ⟨fd, _, _, f__law_pick T F, kb_plain F 2 [] (fun us _ => us) (fun a _ => a) fun _ _ _ _ _ _ us ws h1 h2 => match us, h1, ws, h2 with | [_, _], _, [], _ => rfl⟩
theorem k__law_pick {X : Cx} {K : PySem.W.Frag} {mg : PySem.Str → Option Value} {j : Nat} (T : Tx K mg) (hr : RoomG j X.A) (hj : 2 ≤ j := by decide) (hX : AtX X K mg := by exact ⟨rfl, rfl⟩) : CanG X (.ref (He.ga K "_law_pick")) [] (rFn 2 0 ((S__law_pick K).sp K) idv E0) := by
  obtain ⟨rfl, rfl⟩ := hX
  exact can_cx (g__law_pick T) (hr.le hj) pass0
theorem v_pick {K : PySem.W.Frag} {l : Addr} {E : XK} {Xp : Exc → Prop} {cs : Cells} {Δ : Sts} {tr : TA} {ds : List Dat} (h : EVL ⟨K, Pot l, E, Xp⟩ cs Δ tr [.obj (.ref l), .lst ds]) (h0 : 0 < ds.length) (h1 : ds.length ≤ 1000) : EVP ⟨K, Pot l, E, Xp⟩ cs Δ (tG (rFn 2 0 ((S__law_pick K).sp K) idv E0) tr tNil) fun d => d ∈ ds :=
  ev_fs (S := S__law_pick K) (l, ds) h ea_nil gives_id ⟨rfl, h0, h1⟩ (.inr fun _ z => z)
end DV

set_option Elab.async false
set_option autoImplicit false
set_option linter.all false
set_option maxRecDepth 100000
set_option maxHeartbeats 4000000
namespace DV
open PySem PySem.Spec PyProof.Rows L2
/-! ### tactics: evaluate what stands there -/
local macro_rules | `(tactic| walk_at "dv sz") => `(tactic| first | assumption | exact cm_nn (by assumption) (by assumption) (by decide) | exact cm_nd (by assumption) (by assumption) (by decide) | exact cm_dn (by assumption) (by assumption) (by decide) | exact cm_dd (by assumption) (by assumption) (by decide) | decide | omega | (simp; done))
local macro_rules | `(tactic| walk_at "dv rop") => `(tactic| first
  | with_reducible exact d_add | with_reducible exact d_sub | with_reducible exact d_lt | with_reducible exact d_le | with_reducible exact d_gt | with_reducible exact d_ge
  | with_reducible exact d_eqI | with_reducible exact d_neI | with_reducible exact d_eqS | with_reducible exact d_neS | with_reducible exact d_eqB | with_reducible exact d_neB | with_reducible exact d_isB
  | ((with_reducible apply d_mul); walk_at "dv sz") | ((with_reducible apply d_fd); walk_at "dv sz") | ((with_reducible apply d_mod); walk_at "dv sz") | ((with_reducible apply d_pow); walk_at "dv sz")
  | ((with_reducible apply d_ixL); exact rfl) | ((with_reducible apply d_ixT); exact rfl)
  | ((with_reducible apply d_addL); walk_at "dv sz") | ((with_reducible apply d_addS); walk_at "dv sz"))
local macro_rules | `(tactic| walk_at "dv rcp") => `(tactic| first
  | with_reducible exact d_abs | with_reducible exact d_max | with_reducible exact d_min | with_reducible exact d_intI | with_reducible exact d_intB | with_reducible exact d_lenL | with_reducible exact d_lenT | with_reducible exact d_tupL | with_reducible exact d_tupT
  | ((with_reducible apply d_str); walk_at "dv sz") | ((with_reducible apply d_divmod); walk_at "dv sz"))
local macro_rules | `(tactic| walk_at "dv ea") => `(tactic| first
  | with_reducible exact ea_nil
  | ((with_reducible apply ea_cons); (walk_at "dv ev"); (walk_at "dv ea")))
local macro_rules | `(tactic| walk_at "dv et") => `(tactic| first
  | ((with_reducible apply et_not); walk_at "dv et")
  | ((with_reducible apply et_and); (walk_at "dv et"); (intro _; walk_at "dv et"))
  | ((with_reducible apply et_or); (walk_at "dv et"); (intro _; walk_at "dv et"))
  | ((with_reducible apply et_testD); walk_at "dv ev")
  | ((with_reducible apply et_BD); walk_at "dv ev"))
local macro_rules | `(tactic| walk_at "dv call") => `(tactic| fail "no call")
local macro_rules | `(tactic| walk_at "dv ev") => `(tactic| first
  | with_reducible exact ev_int | with_reducible exact ev_str | with_reducible exact ev_bl | with_reducible exact ev_non | with_reducible exact ev_obj
  | ((with_reducible apply a_var); exact rfl)
  | ((with_reducible apply ev_op); (walk_at "dv ev"); (walk_at "dv ev"); (walk_at "dv rop"))
  | ((with_reducible apply ev_un); (walk_at "dv ev"); with_reducible exact d_neg)
  | ((with_reducible apply a_tup); (walk_at "dv ea"); (walk_at "dv sz"))
  | ((with_reducible apply a_lst); (walk_at "dv ea"); (walk_at "dv sz"))
  | ((with_reducible apply v_ftop (by assumption)); walk_at "dv ev")
  | ((with_reducible apply v_fbot (by assumption)); walk_at "dv ev")
  | ((with_reducible apply ev_cb); (walk_at "dv ea"); (walk_at "dv rcp"))
  | ((with_reducible apply a_and); (walk_at "dv ev"); (intro _; walk_at "dv ev"))
  | ((with_reducible apply a_or); (walk_at "dv ev"); (intro _; walk_at "dv ev"))
  | ((with_reducible apply ev_notV); walk_at "dv ev")
  | walk_at "dv call")
/-! ### the law's own fractions -/
def S__law_low (K : PySem.W.Frag) : FS (Int × Int) where
  arg x := [.int x.1, .int x.2]
  ok _ x := x.2 ≠ 0 ∧ x.2.natAbs < 2 ^ 8000
  res x d := d = pr (Rat.divInt x.1 x.2)
theorem f__law_low {P : Program} {w : World} {K : PySem.W.Frag} {mg : PySem.Str → Option Value} {base : Heap} (T : Tx K mg) {fd : FuncData} (F : FunD K d__law_low.name d__law_low.qual d__law_low.params d__law_low.body d__law_low.scope (d__law_low.dvs K) (d__law_low.kws K) (d__law_low.at_ K) fd) : FnG P w K mg base CX0 1 (d__law_low.at_ K) fd ["above", "below"] ((S__law_low K).sp K) := by
  have nd := sc__law_low.nd
  refine fn_g F sc__law_low (FS.len fun x => by first | rfl | (cases x <;> rfl) | (obtain ⟨_, x⟩ := x; cases x <;> rfl)) fun cdv A fr s H vs Q E hr h => ⟨_, PSs.nox (pss_cons (ps_par (i := 2) (j := 3) rfl nd rfl rfl (by decide) rfl rfl (pa_cons (pe_callB k_abs rfl (T.f_ "abs") PyProof.Rows.boot_abs (pa_cons (pv 0) pa_nil)) (pa_cons (pe_callB k_abs rfl (T.f_ "abs") PyProof.Rows.boot_abs (pa_cons (pv 1) pa_nil)) pa_nil)) rfl)
      (pss_cons (ps_while PassesOwn.never (pt_cmpR o_gt (pv 3) pe_int (nomark _)) (pss_one (ps_par (i := 2) (j := 3) rfl nd rfl rfl (by decide) rfl rfl (pa_cons (pv 3) (pa_cons (pe_op o_mod (pe_callTy k_int rfl (T.f_ "int") PyProof.Rows.boot_int (pa_cons (pv 2) pa_nil)) (pv 3)) pa_nil)) rfl)))
      (pss_one (ps_ret (pe_ifExp (pt_cmpR o_gt (pv 1) pe_int (nomark _)) (pe_tup (pa_cons (pe_op o_fd (pv 0) (pv 2)) (pa_cons (pe_op o_fd (pv 1) (pv 2)) pa_nil))) (pe_tup (pa_cons (pe_op o_fd (pe_un o_neg (pv 0)) (pv 2)) (pa_cons (pe_op o_fd (pe_un o_neg (pv 1)) (pv 2)) pa_nil)))))))), FS.body h fun x W ok => ?_⟩
  try dsimp only [cxOf, Cx.nox, Cx.blk]
  obtain ⟨a, b⟩ := x
  obtain ⟨h0, hb⟩ := ok
  have h0 : b ≠ 0 := h0
  have hg : CFd a (a.gcd b : Nat) := gcd_ok h0 hb
  have hg2 : CFd b (a.gcd b : Nat) := hg
  have hg3 : CFd (-a) (a.gcd b : Nat) := hg
  have hg4 : CFd (-b) (a.gcd b : Nat) := hg
  refine at_ [some (.int a), some (.int b), none, none] rfl ?_
  apply b_par
  · walk_at "dv ea"
  refine q_while (fun m cs Δ => ∃ x y : Nat, cs = [] ∧ Δ = [some (.int a), some (.int b), some (.int x), some (.int y)] ∧ x.gcd y = a.gcd b ∧ m = y) (fun cs Δ => cs = [] ∧ Δ = [some (.int a), some (.int b), some (.int (a.gcd b : Nat)), some (.int 0)]) b.natAbs ⟨a.natAbs, b.natAbs, rfl, rfl, rfl, rfl⟩ ?_ ?_
  · rintro m cs' Δ' ⟨x, y, rfl, rfl, hg, rfl⟩
    refine ⟨fun z => z = decide ((0 : Int) < m), ?_, fun e => ?_, fun e => ?_⟩
    · walk_at "dv et"
    · have hy : 0 < m := by simpa using e.symm
      have hz : (m : Int) ≠ 0 := by omega
      apply s_par
      · walk_at "dv ea"
      · refine ⟨x % m, Nat.mod_lt _ hy, m, x % m, rfl, ?_, ?_, rfl⟩
        · rw [gcd_step hy]; rfl
        · rw [Nat.gcd_comm, ← Nat.gcd_rec, Nat.gcd_comm]
          exact hg
    · have hy : m = 0 := by
        have : ¬ (0 : Int) < m := by simpa using e.symm
        omega
      subst hy
      rw [Nat.gcd_zero_right] at hg
      subst hg
      exact ⟨rfl, rfl⟩
  · rintro cs' Δ' ⟨rfl, rfl⟩
    apply b_retD (d := pr (Rat.divInt a b))
    · apply a_if
      · walk_at "dv et"
      · intro e
        have hp : 0 < b := of_decide_eq_true e
        obtain ⟨e1, e2⟩ := low_pos (a := a) hp
        unfold pr
        rw [← e1, ← e2]
        walk_at "dv ev"
      · intro e
        have hp : b < 0 := by have := of_decide_eq_false e; omega
        obtain ⟨e1, e2⟩ := low_neg (a := a) hp
        unfold pr
        rw [← e1, ← e2]
        walk_at "dv ev"
    · rfl
theorem g__law_low {P : Program} {w : World} {K : PySem.W.Frag} {mg : PySem.Str → Option Value} {base : Heap} (T : Tx K mg) : CxG P w K mg base CX0 (He.ga K "_law_low") 1 2 [] ((S__law_low K).sp K) idv := by
  obtain ⟨fd, F⟩ := T.c.def_ 32 (d := d__law_low) rfl
  exact ⟨fd, _, _, f__law_low T F, kb_plain F 2 [] (fun us _ => us) (fun a _ => a) fun _ _ _ _ _ _ us ws h1 h2 => match us, h1, ws, h2 with | [_, _], _, [], _ => rfl⟩
theorem k__law_low {X : Cx} {K : PySem.W.Frag} {mg : PySem.Str → Option Value} {j : Nat} (T : Tx K mg) (hr : RoomG j X.A) (hj : 1 ≤ j := by decide) (hX : AtX X K mg := by exact ⟨rfl, rfl⟩) : CanG X (.ref (He.ga K "_law_low")) [] (rFn 2 0 ((S__law_low K).sp K) idv E0) := by
  obtain ⟨rfl, rfl⟩ := hX
  exact can_cx (g__law_low T) (hr.le hj) pass0
theorem v_low {c : Ct} {cs : Cells} {Δ : Sts} {tr : TA} {a b : Int} (h : EVL c cs Δ tr [.int a, .int b]) (h0 : b ≠ 0) (hb : b.natAbs < 2 ^ 8000) : EVD c cs Δ (tG (rFn 2 0 ((S__law_low c.K).sp c.K) idv E0) tr tNil) (pr (Rat.divInt a b)) := ev_fs (S := S__law_low c.K) (a, b) h ea_nil gives_id ⟨h0, hb⟩ (.inr fun _ z => z)
def S__law_pair (K : PySem.W.Frag) : FS Num where
  arg n := [n.d K]
  res n d := d = pr n.v
theorem f__law_pair {P : Program} {w : World} {K : PySem.W.Frag} {mg : PySem.Str → Option Value} {base : Heap} (T : Tx K mg) {fd : FuncData} (F : FunD K d__law_pair.name d__law_pair.qual d__law_pair.params d__law_pair.body d__law_pair.scope (d__law_pair.dvs K) (d__law_pair.kws K) (d__law_pair.at_ K) fd) : FnG P w K mg base CX0 3 (d__law_pair.at_ K) fd ["number"] ((S__law_pair K).sp K) := by
  have nd := sc__law_pair.nd
  refine fn_g F sc__law_pair (FS.len fun x => by first | rfl | (cases x <;> rfl) | (obtain ⟨_, x⟩ := x; cases x <;> rfl)) fun cdv A fr s H vs Q E hr h => ⟨_, PSs.nox (pss_one (ps_ret (pe_ifExp (pt_val (pe_callB (x_isi T) rfl (T.f_ "isinstance") PyProof.Rows.boot_isinstance (pa_cons (pv 0) (pa_cons (pe_bltn (v := .ty "int") rfl (T.f_ "int") PyProof.Rows.boot_int rfl) pa_nil)))) (pe_tup (pa_cons (pv 0) (pa_cons pe_int pa_nil))) (pe_tup (pa_cons (p_Ratio_top (j := 2) T hr (pv 0)) (pa_cons (p_Ratio_bottom (j := 2) T hr (pv 0)) pa_nil)))))), FS.body h fun x W ok => ?_⟩
  try dsimp only [cxOf, Cx.nox, Cx.blk]
  refine at_ [some (x.d K)] rfl ?_
  apply b_retD (d := pr x.v)
  · cases x with
    | i n =>
      apply a_ifT (p := true)
      · apply et_BD
        exact ev_cb (ea_cons (a_var rfl) (ea_cons ev_obj ea_nil)) (d_isiT (d := .int n) trivial rfl)
      · rfl
      · refine EVD.to (d := .tup [.int n, .int 1]) ?_ (pr_int n).symm
        walk_at "dv ev"
    | r q =>
      apply a_ifF (p := false)
      · apply et_BD
        exact ev_cb (ea_cons (a_var rfl) (ea_cons ev_obj ea_nil)) (d_isiT (d := rat K q) T.isi T.ex1.ri)
      · rfl
      · exact a_tup (ea_cons (v_prop (f := fun q => .int q.num) (a_var rfl)) (ea_cons (v_prop (f := fun q => .int (q.den : Int)) (a_var rfl)) ea_nil)) (by simp)
  · rfl
theorem g__law_pair {P : Program} {w : World} {K : PySem.W.Frag} {mg : PySem.Str → Option Value} {base : Heap} (T : Tx K mg) : CxG P w K mg base CX0 (He.ga K "_law_pair") 3 1 [] ((S__law_pair K).sp K) idv := by
  obtain ⟨fd, F⟩ := T.c.def_ 33 (d := d__law_pair) rfl
  exact ⟨fd, _, _, f__law_pair T F, kb_plain F 1 [] (fun us _ => us) (fun a _ => a) fun _ _ _ _ _ _ us ws h1 h2 => match us, h1, ws, h2 with | [_], _, [], _ => rfl⟩
theorem k__law_pair {X : Cx} {K : PySem.W.Frag} {mg : PySem.Str → Option Value} {j : Nat} (T : Tx K mg) (hr : RoomG j X.A) (hj : 3 ≤ j := by decide) (hX : AtX X K mg := by exact ⟨rfl, rfl⟩) : CanG X (.ref (He.ga K "_law_pair")) [] (rFn 1 0 ((S__law_pair K).sp K) idv E0) := by
  obtain ⟨rfl, rfl⟩ := hX
  exact can_cx (g__law_pair T) (hr.le hj) pass0
section
variable {c : Ct} {cs : Cells} {Δ : Sts} {tr : TA} {n : Int} {q r : Rat}
theorem v_pair (m : Num) (h : EVL c cs Δ tr [m.d c.K]) : EVD c cs Δ (tG (rFn 1 0 ((S__law_pair c.K).sp c.K) idv E0) tr tNil) (pr m.v) := ev_fs (S := S__law_pair c.K) m h ea_nil gives_id trivial (.inr fun _ z => z)
theorem v_pairR (h : EVL c cs Δ tr [rat c.K q]) : EVD c cs Δ (tG (rFn 1 0 ((S__law_pair c.K).sp c.K) idv E0) tr tNil) (pr q) := v_pair (.r q) h
end
def S_two (f : Rat → Rat → Dat) (K : PySem.W.Frag) : FS (Rat × Rat) where
  arg x := [pr x.1, pr x.2]
  ok _ x := Bd 3500 x.1 ∧ Bd 3500 x.2
  res x d := d = f x.1 x.2
abbrev S__law_plus := S_two fun q r => pr (q + r)
abbrev S__law_times := S_two fun q r => pr (q * r)
abbrev S__law_is_most := S_two fun q r => .bl (decide (q ≤ r))
local macro_rules | `(tactic| walk_at "dv call") => `(tactic| first
  | ((with_reducible apply v_low); (walk_at "dv ea")))
theorem f__law_plus {P : Program} {w : World} {K : PySem.W.Frag} {mg : PySem.Str → Option Value} {base : Heap} (T : Tx K mg) {fd : FuncData} (F : FunD K d__law_plus.name d__law_plus.qual d__law_plus.params d__law_plus.body d__law_plus.scope (d__law_plus.dvs K) (d__law_plus.kws K) (d__law_plus.at_ K) fd) : FnG P w K mg base CX0 2 (d__law_plus.at_ K) fd ["one", "other"] ((S__law_plus K).sp K) := by
  have nd := sc__law_plus.nd
  refine fn_g F sc__law_plus (FS.len fun x => by first | rfl | (cases x <;> rfl) | (obtain ⟨_, x⟩ := x; cases x <;> rfl)) fun cdv A fr s H vs Q E hr h => ⟨_, PSs.nox (pss_one (ps_ret (pe_g (ks := []) rfl (T.g_ "_law_low") (T.k_ "_law_low") (k__law_low (j := 1) T hr) (pa_cons (pe_op (x_add T) (pe_op o_mul (pe_ix (x_ix T) (pv 0) pe_int fun _ _ => rfl) (pe_ix (x_ix T) (pv 1) pe_int fun _ _ => rfl)) (pe_op o_mul (pe_ix (x_ix T) (pv 1) pe_int fun _ _ => rfl) (pe_ix (x_ix T) (pv 0) pe_int fun _ _ => rfl))) (pa_cons (pe_op o_mul (pe_ix (x_ix T) (pv 0) pe_int fun _ _ => rfl) (pe_ix (x_ix T) (pv 1) pe_int fun _ _ => rfl)) pa_nil)) pk_nil))), FS.body h fun x W ok => ?_⟩
  try dsimp only [cxOf, Cx.nox, Cx.blk]
  obtain ⟨q, r⟩ := x
  obtain ⟨hq, hm⟩ := ok
  refine at_ [some (.tup [.int q.num, .int (q.den : Int)]), some (.tup [.int r.num, .int (r.den : Int)])] rfl ?_
  apply b_retD
  · apply v_low
    · walk_at "dv ea"
    · exact mul_ne (den_ne _) (den_ne _)
    · exact den_lt hq hm
  · show pr _ = pr (q + r)
    rw [add_fr]
theorem f__law_times {P : Program} {w : World} {K : PySem.W.Frag} {mg : PySem.Str → Option Value} {base : Heap} (T : Tx K mg) {fd : FuncData} (F : FunD K d__law_times.name d__law_times.qual d__law_times.params d__law_times.body d__law_times.scope (d__law_times.dvs K) (d__law_times.kws K) (d__law_times.at_ K) fd) : FnG P w K mg base CX0 2 (d__law_times.at_ K) fd ["one", "other"] ((S__law_times K).sp K) := by
  have nd := sc__law_times.nd
  refine fn_g F sc__law_times (FS.len fun x => by first | rfl | (cases x <;> rfl) | (obtain ⟨_, x⟩ := x; cases x <;> rfl)) fun cdv A fr s H vs Q E hr h => ⟨_, PSs.nox (pss_one (ps_ret (pe_g (ks := []) rfl (T.g_ "_law_low") (T.k_ "_law_low") (k__law_low (j := 1) T hr) (pa_cons (pe_op o_mul (pe_ix (x_ix T) (pv 0) pe_int fun _ _ => rfl) (pe_ix (x_ix T) (pv 1) pe_int fun _ _ => rfl)) (pa_cons (pe_op o_mul (pe_ix (x_ix T) (pv 0) pe_int fun _ _ => rfl) (pe_ix (x_ix T) (pv 1) pe_int fun _ _ => rfl)) pa_nil)) pk_nil))), FS.body h fun x W ok => ?_⟩
  try dsimp only [cxOf, Cx.nox, Cx.blk]
  obtain ⟨q, r⟩ := x
  obtain ⟨hq, hm⟩ := ok
  refine at_ [some (.tup [.int q.num, .int (q.den : Int)]), some (.tup [.int r.num, .int (r.den : Int)])] rfl ?_
  apply b_retD
  · apply v_low
    · walk_at "dv ea"
    · exact mul_ne (den_ne _) (den_ne _)
    · exact den_lt hq hm
  · show pr _ = pr (q * r)
    rw [mul_fr]
theorem f__law_is_most {P : Program} {w : World} {K : PySem.W.Frag} {mg : PySem.Str → Option Value} {base : Heap} (T : Tx K mg) {fd : FuncData} (F : FunD K d__law_is_most.name d__law_is_most.qual d__law_is_most.params d__law_is_most.body d__law_is_most.scope (d__law_is_most.dvs K) (d__law_is_most.kws K) (d__law_is_most.at_ K) fd) : FnG P w K mg base CX0 1 (d__law_is_most.at_ K) fd ["one", "other"] ((S__law_is_most K).sp K) := by
  have nd := sc__law_is_most.nd
  refine fn_g F sc__law_is_most (FS.len fun x => by first | rfl | (cases x <;> rfl) | (obtain ⟨_, x⟩ := x; cases x <;> rfl)) fun cdv A fr s H vs Q E hr h => ⟨_, PSs.nox (pss_one (ps_ret (pe_cmpR o_le (pe_op o_mul (pe_ix (x_ix T) (pv 0) pe_int fun _ _ => rfl) (pe_ix (x_ix T) (pv 1) pe_int fun _ _ => rfl)) (pe_op o_mul (pe_ix (x_ix T) (pv 1) pe_int fun _ _ => rfl) (pe_ix (x_ix T) (pv 0) pe_int fun _ _ => rfl)) (nomark _)))), FS.body h fun x W ok => ?_⟩
  try dsimp only [cxOf, Cx.nox, Cx.blk]
  obtain ⟨q, r⟩ := x
  obtain ⟨hq, hm⟩ := ok
  refine at_ [some (.tup [.int q.num, .int (q.den : Int)]), some (.tup [.int r.num, .int (r.den : Int)])] rfl ?_
  apply b_retD
  · walk_at "dv ev"
  · show Dat.bl _ = .bl (decide (q ≤ r))
    rw [show decide (q ≤ r) = decide (q.num * (r.den : Int) ≤ r.num * (q.den : Int)) from decide_eq_decide.mpr (Rat.le_iff q r)]
theorem g__law_plus {P : Program} {w : World} {K : PySem.W.Frag} {mg : PySem.Str → Option Value} {base : Heap} (T : Tx K mg) : CxG P w K mg base CX0 (He.ga K "_law_plus") 2 2 [] ((S__law_plus K).sp K) idv := by
  obtain ⟨fd, F⟩ := T.c.def_ 34 (d := d__law_plus) rfl
  exact ⟨fd, _, _, f__law_plus T F, kb_plain F 2 [] (fun us _ => us) (fun a _ => a) fun _ _ _ _ _ _ us ws h1 h2 => match us, h1, ws, h2 with | [_, _], _, [], _ => rfl⟩
theorem k__law_plus {X : Cx} {K : PySem.W.Frag} {mg : PySem.Str → Option Value} {j : Nat} (T : Tx K mg) (hr : RoomG j X.A) (hj : 2 ≤ j := by decide) (hX : AtX X K mg := by exact ⟨rfl, rfl⟩) : CanG X (.ref (He.ga K "_law_plus")) [] (rFn 2 0 ((S__law_plus K).sp K) idv E0) := by
  obtain ⟨rfl, rfl⟩ := hX
  exact can_cx (g__law_plus T) (hr.le hj) pass0
theorem g__law_times {P : Program} {w : World} {K : PySem.W.Frag} {mg : PySem.Str → Option Value} {base : Heap} (T : Tx K mg) : CxG P w K mg base CX0 (He.ga K "_law_times") 2 2 [] ((S__law_times K).sp K) idv := by
  obtain ⟨fd, F⟩ := T.c.def_ 35 (d := d__law_times) rfl
  exact ⟨fd, _, _, f__law_times T F, kb_plain F 2 [] (fun us _ => us) (fun a _ => a) fun _ _ _ _ _ _ us ws h1 h2 => match us, h1, ws, h2 with | [_, _], _, [], _ => rfl⟩
theorem k__law_times {X : Cx} {K : PySem.W.Frag} {mg : PySem.Str → Option Value} {j : Nat} (T : Tx K mg) (hr : RoomG j X.A) (hj : 2 ≤ j := by decide) (hX : AtX X K mg := by exact ⟨rfl, rfl⟩) : CanG X (.ref (He.ga K "_law_times")) [] (rFn 2 0 ((S__law_times K).sp K) idv E0) := by
  obtain ⟨rfl, rfl⟩ := hX
  exact can_cx (g__law_times T) (hr.le hj) pass0
theorem g__law_is_most {P : Program} {w : World} {K : PySem.W.Frag} {mg : PySem.Str → Option Value} {base : Heap} (T : Tx K mg) : CxG P w K mg base CX0 (He.ga K "_law_is_most") 1 2 [] ((S__law_is_most K).sp K) idv := by
  obtain ⟨fd, F⟩ := T.c.def_ 36 (d := d__law_is_most) rfl
  exact ⟨fd, _, _, f__law_is_most T F, kb_plain F 2 [] (fun us _ => us) (fun a _ => a) fun _ _ _ _ _ _ us ws h1 h2 => match us, h1, ws, h2 with | [_, _], _, [], _ => rfl⟩
theorem k__law_is_most {X : Cx} {K : PySem.W.Frag} {mg : PySem.Str → Option Value} {j : Nat} (T : Tx K mg) (hr : RoomG j X.A) (hj : 1 ≤ j := by decide) (hX : AtX X K mg := by exact ⟨rfl, rfl⟩) : CanG X (.ref (He.ga K "_law_is_most")) [] (rFn 2 0 ((S__law_is_most K).sp K) idv E0) := by
  obtain ⟨rfl, rfl⟩ := hX
  exact can_cx (g__law_is_most T) (hr.le hj) pass0
section
variable {c : Ct} {cs : Cells} {Δ : Sts} {tr : TA} {q r : Rat}
theorem v_plus (h : EVL c cs Δ tr [pr q, pr r]) (hq : Bd 3500 q) (hr : Bd 3500 r) : EVD c cs Δ (tG (rFn 2 0 ((S__law_plus c.K).sp c.K) idv E0) tr tNil) (pr (q + r)) := ev_fs (S := S__law_plus c.K) (q, r) h ea_nil gives_id ⟨hq, hr⟩ (.inr fun _ z => z)
theorem v_times (h : EVL c cs Δ tr [pr q, pr r]) (hq : Bd 3500 q) (hr : Bd 3500 r) : EVD c cs Δ (tG (rFn 2 0 ((S__law_times c.K).sp c.K) idv E0) tr tNil) (pr (q * r)) := ev_fs (S := S__law_times c.K) (q, r) h ea_nil gives_id ⟨hq, hr⟩ (.inr fun _ z => z)
theorem v_ismost (h : EVL c cs Δ tr [pr q, pr r]) (hq : Bd 3500 q) (hr : Bd 3500 r) : EVD c cs Δ (tG (rFn 2 0 ((S__law_is_most c.K).sp c.K) idv E0) tr tNil) (.bl (decide (q ≤ r))) := ev_fs (S := S__law_is_most c.K) (q, r) h ea_nil gives_id ⟨hq, hr⟩ (.inr fun _ z => z)
end
/-! ### shown -/
def S__law_shown (K : PySem.W.Frag) : FS Rat where
  arg q := [pr q]
  ok _ q := Sm q.num ∧ Sm q.den
  res q d := d = .str (shw q)
theorem f__law_shown {P : Program} {w : World} {K : PySem.W.Frag} {mg : PySem.Str → Option Value} {base : Heap} (T : Tx K mg) {fd : FuncData} (F : FunD K d__law_shown.name d__law_shown.qual d__law_shown.params d__law_shown.body d__law_shown.scope (d__law_shown.dvs K) (d__law_shown.kws K) (d__law_shown.at_ K) fd) : FnG P w K mg base CX0 1 (d__law_shown.at_ K) fd ["pair"] ((S__law_shown K).sp K) := by
  have nd := sc__law_shown.nd
  refine fn_g F sc__law_shown (FS.len fun x => by first | rfl | (cases x <;> rfl) | (obtain ⟨_, x⟩ := x; cases x <;> rfl)) fun cdv A fr s H vs Q E hr h => ⟨_, PSs.nox (pss_one (ps_ret (pe_ifExp (pt_cmpR (x_eq (j := 0) T hr) (pe_ix (x_ix T) (pv 0) pe_int fun _ _ => rfl) pe_int (nomark _)) (pe_callTy k_str rfl (T.f_ "str") PyProof.Rows.boot_str (pa_cons (pe_ix (x_ix T) (pv 0) pe_int fun _ _ => rfl) pa_nil)) (pe_op (x_add T) (pe_op (x_add T) (pe_callTy k_str rfl (T.f_ "str") PyProof.Rows.boot_str (pa_cons (pe_ix (x_ix T) (pv 0) pe_int fun _ _ => rfl) pa_nil)) pe_str) (pe_callTy k_str rfl (T.f_ "str") PyProof.Rows.boot_str (pa_cons (pe_ix (x_ix T) (pv 0) pe_int fun _ _ => rfl) pa_nil)))))), FS.body h fun x W ok => ?_⟩
  try dsimp only [cxOf, Cx.nox, Cx.blk]
  obtain ⟨h1, h2⟩ := ok
  have l1 := sm_len h1
  have l2 := sm_len h2
  have m1 := sm_1920 h1
  have m2 := sm_1920 h2
  have l0 : (PySem.Str.ofString "/").length = 1 := by decide +kernel
  have z1 : (txt x.num).length + (PySem.Str.ofString "/").length ≤ PySem.sizeLine := line_ge (by omega)
  have z2 : (txt x.num ++ PySem.Str.ofString "/").length + (txt (x.den : Int)).length ≤ PySem.sizeLine := line_ge (by rw [strLen_append]; omega)
  refine at_ [some (.tup [.int x.num, .int (x.den : Int)])] rfl ?_
  apply b_retD (d := .str (shw x))
  · apply a_if
    · walk_at "dv et"
    · intro e
      have hd : x.den = 1 := by have := of_decide_eq_true e; omega
      unfold shw
      rw [if_pos hd]
      walk_at "dv ev"
    · intro e
      have hd : ¬ x.den = 1 := by have := of_decide_eq_false e; omega
      unfold shw
      rw [if_neg hd]
      walk_at "dv ev"
  · rfl
theorem g__law_shown {P : Program} {w : World} {K : PySem.W.Frag} {mg : PySem.Str → Option Value} {base : Heap} (T : Tx K mg) : CxG P w K mg base CX0 (He.ga K "_law_shown") 1 1 [] ((S__law_shown K).sp K) idv := by
  obtain ⟨fd, F⟩ := T.c.def_ 38 (d := d__law_shown) rfl
  exact ⟨fd, _, _, f__law_shown T F, kb_plain F 1 [] (fun us _ => us) (fun a _ => a) fun _ _ _ _ _ _ us ws h1 h2 => match us, h1, ws, h2 with | [_], _, [], _ => rfl⟩
theorem k__law_shown {X : Cx} {K : PySem.W.Frag} {mg : PySem.Str → Option Value} {j : Nat} (T : Tx K mg) (hr : RoomG j X.A) (hj : 1 ≤ j := by decide) (hX : AtX X K mg := by exact ⟨rfl, rfl⟩) : CanG X (.ref (He.ga K "_law_shown")) [] (rFn 1 0 ((S__law_shown K).sp K) idv E0) := by
  obtain ⟨rfl, rfl⟩ := hX
  exact can_cx (g__law_shown T) (hr.le hj) pass0
/-! ### drawn -/
def Dr (a b : Int) : Prop := b ≠ 0 ∧ a.natAbs < 2 ^ 60 ∧ b.natAbs < 2 ^ 60
/-- as drawn -/
def Dq (a b : Int) : Prop := b ≠ 0 ∧ a.natAbs < 2 ^ 50 ∧ b.natAbs < 2 ^ 50
def S__law_drawn (K : PySem.W.Frag) : FS Addr where
  arg l := [.obj (.ref l)]
  ok W l := W = Pot l
  res _ d := ∃ a b : Int, d = .tup [.int a, .int b] ∧ Dq a b
theorem dr_of {w x y m : Int} (hw : 3 ≤ w) (hw2 : w ≤ 10 ^ 14) (hx : 0 ≤ x) (hx2 : x < 2 * w + 1) (hy : 0 ≤ y) (hy2 : y < w) (hm : 1 ≤ m) (hm2 : m ≤ 6) : Dq ((x - w) * m) ((1 + y) * m) := by
  have h1 : (x - w).natAbs ≤ 10 ^ 14 := by omega
  have h2 : (1 + y).natAbs ≤ 10 ^ 14 := by omega
  have h3 : m.natAbs ≤ 6 := by omega
  refine ⟨mul_ne (by omega) (by omega), ?_, ?_⟩
  · rw [Int.natAbs_mul]
    exact Nat.lt_of_le_of_lt (Nat.mul_le_mul h1 h3) (by decide)
  · rw [Int.natAbs_mul]
    exact Nat.lt_of_le_of_lt (Nat.mul_le_mul h2 h3) (by decide)
theorem dr_neg {a b : Int} (h : Dq a b) : Dq a (-b) := ⟨by have := h.1; omega, h.2.1, by rw [Int.natAbs_neg]; exact h.2.2⟩
theorem f__law_drawn {P : Program} {w : World} {K : PySem.W.Frag} {mg : PySem.Str → Option Value} {base : Heap} (T : Tx K mg) {fd : FuncData} (F : FunD K d__law_drawn.name d__law_drawn.qual d__law_drawn.params d__law_drawn.body d__law_drawn.scope (d__law_drawn.dvs K) (d__law_drawn.kws K) (d__law_drawn.at_ K) fd) : FnG P w K mg base CX0 3 (d__law_drawn.at_ K) fd ["pot"] ((S__law_drawn K).sp K) := by
  have nd := sc__law_drawn.nd
  refine fn_g F sc__law_drawn (FS.len fun x => by first | rfl | (cases x <;> rfl) | (obtain ⟨_, x⟩ := x; cases x <;> rfl)) fun cdv A fr s H vs Q E hr h => ⟨_, PSs.nox (pss_cons (ps_set (i := 1) nd rfl (Or.inl rfl) (pe_g (ks := []) rfl (T.g_ "_law_pick") (T.k_ "_law_pick") (k__law_pick (j := 2) T hr) (pa_cons (pv 0) (pa_cons (pe_lst (pa_cons pe_int (pa_cons pe_int (pa_cons pe_int (pa_cons pe_int (pa_cons (pe_op o_pow pe_int pe_int) pa_nil)))))) pa_nil)) pk_nil))
      (pss_cons (ps_par (i := 2) (j := 3) rfl nd rfl rfl (by decide) rfl rfl (pa_cons (pe_op o_sub (pe_g (ks := []) rfl (T.g_ "_law_draw") (T.k_ "_law_draw") (k__law_draw (j := 2) T hr) (pa_cons (pv 0) (pa_cons (pe_op (x_add T) (pe_op o_mul pe_int (pv 1)) pe_int) pa_nil)) pk_nil) (pv 1)) (pa_cons (pe_op (x_add T) pe_int (pe_g (ks := []) rfl (T.g_ "_law_draw") (T.k_ "_law_draw") (k__law_draw (j := 2) T hr) (pa_cons (pv 0) (pa_cons (pv 1) pa_nil)) pk_nil)) pa_nil)) rfl)
      (pss_cons (ps_set (i := 4) nd rfl (Or.inl rfl) (pe_g (ks := []) rfl (T.g_ "_law_pick") (T.k_ "_law_pick") (k__law_pick (j := 2) T hr) (pa_cons (pv 0) (pa_cons (pe_lst (pa_cons pe_int (pa_cons pe_int (pa_cons pe_int (pa_cons pe_int pa_nil))))) pa_nil)) pk_nil))
      (pss_one (ps_ret (pe_tup (pa_cons (pe_op o_mul (pv 2) (pv 4)) (pa_cons (pe_ifExp (pt_cmpR o_gt (pe_g (ks := []) rfl (T.g_ "_law_draw") (T.k_ "_law_draw") (k__law_draw (j := 2) T hr) (pa_cons (pv 0) (pa_cons pe_int pa_nil)) pk_nil) pe_int (nomark _)) (pe_op o_mul (pv 3) (pv 4)) (pe_op o_mul (pe_un o_neg (pv 3)) (pv 4))) pa_nil)))))))), FS.body h fun x W ok => ?_⟩
  try dsimp only [cxOf, Cx.nox, Cx.blk]
  subst ok
  refine at_ [some (.obj (.ref x)), none, none, none, none] rfl ?_
  refine q_asgP (P := fun d => d ∈ ([3, 9, 12, 30, 10 ^ 14] : List Int).map Dat.int) (v_pick ?_ (by decide) (by decide)) ?_
  · have hp : CPow 10 14 := ⟨by decide, by decide, by decide⟩
    refine ea_cons (a_var rfl) (ea_cons (EVD.to (d := .lst [.int 3, .int 9, .int 12, .int 30, .int (10 ^ (14 : Int).toNat)]) ?_ rfl) ea_nil)
    walk_at "dv ev"
  intro d hd
  obtain ⟨w, hw, rfl⟩ := List.mem_map.mp hd
  have hw3 : 3 ≤ w ∧ w ≤ 10 ^ 14 := by
    simp only [List.mem_cons, List.not_mem_nil, or_false] at hw
    rcases hw with rfl | rfl | rfl | rfl | rfl <;> decide
  clear hw hd
  obtain ⟨hw, hw2⟩ := hw3
  have c2 : CMulW 2 w := cm_of (a := 60) (b := 60) (by decide) (Nat.lt_of_le_of_lt (by omega : w.natAbs ≤ 10 ^ 14) (by decide)) (by decide)
  refine b_parP (PA := fun a b => ∃ x y : Int, a = .int (x - w) ∧ b = .int (1 + y) ∧ 0 ≤ x ∧ x < 2 * w + 1 ∧ 0 ≤ y ∧ y < w) ?_ ?_
  · refine (eap_cons (Pa := fun d => ∃ x : Int, d = .int (x - w) ∧ 0 ≤ x ∧ x < 2 * w + 1) (Pr := fun _ l => ∃ y : Int, l = [.int (1 + y)] ∧ 0 ≤ y ∧ y < w) ?_ fun d _ => ?_).imp ?_
    · refine evp_op (Pb := fun _ d => d = .int w) (v_draw (z := 2 * w + 1) ?_ (by omega) ?_) (fun _ _ => a_var rfl) ?_
      · walk_at "dv ea"
      · exact Nat.lt_of_le_of_lt (by omega : (2 * w + 1).natAbs ≤ 10 ^ 15) (by decide)
      · rintro _ _ ⟨x, rfl, h1, h2⟩ rfl
        exact fun G H x' y I R ra rb Q q => d_sub G H x' y I R ra rb Q fun d v G2 H2 hd => q d v G2 H2 ⟨x, hd, h1, h2⟩
    · refine (eap_cons (Pa := fun d => ∃ y : Int, d = .int (1 + y) ∧ 0 ≤ y ∧ y < w) (Pr := fun _ l => l = []) ?_ fun _ _ => ea_nil).imp fun l ⟨d, ds, e, ⟨y, h, h1⟩, e2⟩ => ⟨y, by rw [e, h, e2], h1⟩
      refine evp_op (Pa := fun d => d = .int 1) (Pb := fun _ d => ∃ i : Int, d = .int i ∧ 0 ≤ i ∧ i < w) ev_int (fun _ _ => v_draw (ea_cons (a_var rfl) (ea_cons (a_var rfl) ea_nil)) (by omega) (Nat.lt_of_le_of_lt (by omega : w.natAbs ≤ 10 ^ 14) (by decide))) ?_
      rintro _ _ rfl ⟨y, rfl, h1, h2⟩
      exact fun G H x' y' I R ra rb Q q => d_add G H x' y' I R ra rb Q fun d v G2 H2 hd => q d v G2 H2 ⟨y, hd, h1, h2⟩
    · rintro l' ⟨d, ds, rfl, ⟨x, rfl, h1, h2⟩, y, rfl, h3, h4⟩
      exact ⟨_, _, rfl, x, y, rfl, rfl, h1, h2, h3, h4⟩
  rintro _ _ ⟨x1, y1, rfl, rfl, hx, hx2, hy, hy2⟩
  refine q_asgP (P := fun d => d ∈ ([1, 1, 2, 6] : List Int).map Dat.int) (v_pick ?_ (by decide) (by decide)) ?_
  · refine ea_cons (a_var rfl) (ea_cons (EVD.to (d := .lst [.int 1, .int 1, .int 2, .int 6]) ?_ rfl) ea_nil)
    walk_at "dv ev"
  intro d hd
  obtain ⟨m, hm, rfl⟩ := List.mem_map.mp hd
  have hm1 : 1 ≤ m ∧ m ≤ 6 := by
    simp only [List.mem_cons, List.not_mem_nil, or_false] at hm
    rcases hm with rfl | rfl | rfl | rfl <;> decide
  clear hm hd
  obtain ⟨hm, hm2⟩ := hm1
  have dr := dr_of hw hw2 hx hx2 hy hy2 hm hm2
  have k1 : CMulW (x1 - w) m := cm_of (a := 60) (b := 60) (Nat.lt_of_le_of_lt (by omega : (x1 - w).natAbs ≤ 10 ^ 14) (by decide)) (Nat.lt_of_le_of_lt (by omega : m.natAbs ≤ 6) (by decide)) (by decide)
  have k2 : CMulW (1 + y1) m := cm_of (a := 60) (b := 60) (Nat.lt_of_le_of_lt (by omega : (1 + y1).natAbs ≤ 10 ^ 14) (by decide)) (Nat.lt_of_le_of_lt (by omega : m.natAbs ≤ 6) (by decide)) (by decide)
  have k3 : CMulW (-(1 + y1)) m := cm_of (a := 60) (b := 60) (Nat.lt_of_le_of_lt (by omega : (-(1 + y1)).natAbs ≤ 10 ^ 14) (by decide)) (Nat.lt_of_le_of_lt (by omega : m.natAbs ≤ 6) (by decide)) (by decide)
  apply b_ret (P := fun d => ∃ a b : Int, d = .tup [.int a, .int b] ∧ Dq a b)
  · refine (evp_tup (PA := fun l => ∃ b : Int, l = [.int ((x1 - w) * m), .int b] ∧ Dq ((x1 - w) * m) b) ?_ ?_).imp ?_
    · refine (eap_cons (Pa := fun d => d = .int ((x1 - w) * m)) (Pr := fun _ l => ∃ b : Int, l = [.int b] ∧ Dq ((x1 - w) * m) b) ?_ fun d _ => ?_).imp ?_
      · walk_at "dv ev"
      · refine (eap_cons (Pa := fun d => ∃ b : Int, d = .int b ∧ Dq ((x1 - w) * m) b) (Pr := fun _ l => l = []) ?_ fun _ _ => ea_nil).imp fun l ⟨d, ds, e, ⟨y, h, h1⟩, e2⟩ => ⟨y, by rw [e, h, e2], h1⟩
        refine evp_if (Pb := fun _ => True) ?_ (fun _ => ?_) fun _ => ?_
        · refine et_test (evp_op (Pb := fun _ d => d = .int 0) (v_draw (z := 4) (ea_cons (a_var rfl) (ea_cons ev_int ea_nil)) (by decide) (by decide)) (fun _ _ => ev_int) ?_)
          rintro _ _ ⟨a, rfl, _⟩ rfl
          exact fun G H x y I R ra rb Q q => d_gt G H x y I R ra rb Q fun d v G2 H2 hd => q d v G2 H2 ⟨_, hd, trivial⟩
        · refine EVP.imp (P := fun d => d = .int ((1 + y1) * m)) ?_ fun d hd => ⟨_, hd, dr⟩
          walk_at "dv ev"
        · refine EVP.imp (P := fun d => d = .int (-(1 + y1) * m)) ?_ fun d hd => ⟨_, hd, ?_⟩
          · walk_at "dv ev"
          · rw [Int.neg_mul]
            exact dr_neg dr
      · rintro l' ⟨d, ds, rfl, rfl, b, rfl, h⟩
        exact ⟨b, rfl, h⟩
    · rintro ds ⟨b, rfl, _⟩
      show 2 ≤ 100000
      decide
    · rintro d ⟨ds, rfl, b, rfl, h⟩
      exact ⟨_, b, rfl, h⟩
  · exact fun d h => h
theorem g__law_drawn {P : Program} {w : World} {K : PySem.W.Frag} {mg : PySem.Str → Option Value} {base : Heap} (T : Tx K mg) : CxG P w K mg base CX0 (He.ga K "_law_drawn") 3 1 [] ((S__law_drawn K).sp K) idv := by
  obtain ⟨fd, F⟩ := T.c.def_ 37 (d := d__law_drawn) rfl
  exact ⟨fd, _, _, f__law_drawn T F, kb_plain F 1 [] (fun us _ => us) (fun a _ => a) fun _ _ _ _ _ _ us ws h1 h2 => match us, h1, ws, h2 with | [_], _, [], _ => rfl⟩
theorem k__law_drawn {X : Cx} {K : PySem.W.Frag} {mg : PySem.Str → Option Value} {j : Nat} (T : Tx K mg) (hr : RoomG j X.A) (hj : 3 ≤ j := by decide) (hX : AtX X K mg := by exact ⟨rfl, rfl⟩) : CanG X (.ref (He.ga K "_law_drawn")) [] (rFn 1 0 ((S__law_drawn K).sp K) idv E0) := by
  obtain ⟨rfl, rfl⟩ := hX
  exact can_cx (g__law_drawn T) (hr.le hj) pass0
end DV

set_option Elab.async false
set_option autoImplicit false
set_option linter.all false
set_option maxRecDepth 100000
set_option maxHeartbeats 4000000
namespace DV
open PySem PySem.Spec PyProof.Rows L2
/-! ### tactics: evaluate what stands there -/
local macro_rules | `(tactic| walk_at "dv sz") => `(tactic| first | assumption | exact cm_nn (by assumption) (by assumption) (by decide) | exact cm_nd (by assumption) (by assumption) (by decide) | exact cm_dn (by assumption) (by assumption) (by decide) | exact cm_dd (by assumption) (by assumption) (by decide) | decide | omega | (simp; done))
local macro_rules | `(tactic| walk_at "dv rop") => `(tactic| first
  | with_reducible exact d_add | with_reducible exact d_sub | with_reducible exact d_lt | with_reducible exact d_le | with_reducible exact d_gt | with_reducible exact d_ge
  | with_reducible exact d_eqI | with_reducible exact d_neI | with_reducible exact d_eqS | with_reducible exact d_neS | with_reducible exact d_eqB | with_reducible exact d_neB | with_reducible exact d_isB
  | ((with_reducible apply d_mul); walk_at "dv sz") | ((with_reducible apply d_fd); walk_at "dv sz") | ((with_reducible apply d_mod); walk_at "dv sz") | ((with_reducible apply d_pow); walk_at "dv sz")
  | ((with_reducible apply d_ixL); exact rfl) | ((with_reducible apply d_ixT); exact rfl)
  | ((with_reducible apply d_addL); walk_at "dv sz") | ((with_reducible apply d_addS); walk_at "dv sz"))
local macro_rules | `(tactic| walk_at "dv rcp") => `(tactic| first
  | with_reducible exact d_abs | with_reducible exact d_max | with_reducible exact d_min | with_reducible exact d_intI | with_reducible exact d_intB | with_reducible exact d_lenL | with_reducible exact d_lenT | with_reducible exact d_tupL | with_reducible exact d_tupT
  | ((with_reducible apply d_str); walk_at "dv sz") | ((with_reducible apply d_divmod); walk_at "dv sz"))
local macro_rules | `(tactic| walk_at "dv ea") => `(tactic| first
  | with_reducible exact ea_nil
  | ((with_reducible apply ea_cons); (walk_at "dv ev"); (walk_at "dv ea")))
local macro_rules | `(tactic| walk_at "dv et") => `(tactic| first
  | ((with_reducible apply et_not); walk_at "dv et")
  | ((with_reducible apply et_and); (walk_at "dv et"); (intro _; walk_at "dv et"))
  | ((with_reducible apply et_or); (walk_at "dv et"); (intro _; walk_at "dv et"))
  | ((with_reducible apply et_testD); walk_at "dv ev")
  | ((with_reducible apply et_BD); walk_at "dv ev"))
local macro_rules | `(tactic| walk_at "dv call") => `(tactic| fail "no call")
local macro_rules | `(tactic| walk_at "dv ev") => `(tactic| first
  | with_reducible exact ev_int | with_reducible exact ev_str | with_reducible exact ev_bl | with_reducible exact ev_non | with_reducible exact ev_obj
  | ((with_reducible apply a_var); exact rfl)
  | ((with_reducible apply ev_op); (walk_at "dv ev"); (walk_at "dv ev"); (walk_at "dv rop"))
  | ((with_reducible apply ev_un); (walk_at "dv ev"); with_reducible exact d_neg)
  | ((with_reducible apply a_tup); (walk_at "dv ea"); (walk_at "dv sz"))
  | ((with_reducible apply a_lst); (walk_at "dv ea"); (walk_at "dv sz"))
  | ((with_reducible apply v_ftop (by assumption)); walk_at "dv ev")
  | ((with_reducible apply v_fbot (by assumption)); walk_at "dv ev")
  | ((with_reducible apply ev_cb); (walk_at "dv ea"); (walk_at "dv rcp"))
  | ((with_reducible apply a_and); (walk_at "dv ev"); (intro _; walk_at "dv ev"))
  | ((with_reducible apply a_or); (walk_at "dv ev"); (intro _; walk_at "dv ev"))
  | ((with_reducible apply ev_notV); walk_at "dv ev")
  | walk_at "dv call")
/-! ### flat lists and their texts -/
def flat (d : Dat) : Prop := (∃ i : Int, d = .int i ∧ i.natAbs < 2 ^ 1000) ∨ ∃ b, d = .bl b
theorem flat_plain : ∀ {ds : List Dat}, (∀ d ∈ ds, flat d) → plains ds = true ∧ PyData.showableAll (toPs ds) = true ∧ PyData.hasDictAll (toPs ds) = false ∧ PyData.depthAll (toPs ds) = 0
  | [], _ => ⟨rfl, rfl, rfl, rfl⟩
  | d :: ds, h => by
    obtain ⟨h1, h2, h3, h4⟩ := flat_plain (ds := ds) fun x hx => h x (List.mem_cons_of_mem _ hx)
    rcases h d List.mem_cons_self with ⟨i, rfl, hi⟩ | ⟨b, rfl⟩
    · refine ⟨h1, ?_, h3, ?_⟩
      · show (decide (i.natAbs.log2 < 1920) && PyData.showableAll (toPs ds)) = true
        rw [h2, decide_eq_true (Nat.lt_trans (log_lt hi (by decide)) (by decide))]
        rfl
      · show max 0 (PyData.depthAll (toPs ds)) = 0
        rw [h4]
        rfl
    · refine ⟨h1, h2, h3, ?_⟩
      show max 0 (PyData.depthAll (toPs ds)) = 0
      rw [h4]
      rfl
theorem flat_rpr {ds : List Dat} (h : ∀ d ∈ ds, flat d) : rpr (.lst ds) = true := by
  obtain ⟨h1, h2, h3, h4⟩ := flat_plain h
  show (plains ds && PyData.showableAll (toPs ds) && !PyData.hasDictAll (toPs ds) && decide (PyData.depthAll (toPs ds) + 1 ≤ 60)) = true
  rw [h1, h2, h3, h4]
  rfl
theorem flat_sum : ∀ {ds : List Dat}, (∀ d ∈ ds, flat d) → ((PyData.shownAll (toPs ds)).map (·.length)).sum ≤ 1001 * ds.length
  | [], _ => Nat.le_refl _
  | d :: ds, h => by
    have ih := flat_sum (ds := ds) fun x hx => h x (List.mem_cons_of_mem _ hx)
    show (PyData.shown (toP d)).length + ((PyData.shownAll (toPs ds)).map (·.length)).sum ≤ _
    have h1 : (PyData.shown (toP d)).length ≤ 1001 := by
      rcases h d List.mem_cons_self with ⟨i, rfl, hi⟩ | ⟨b, rfl⟩
      · exact txt_len hi (by decide)
      · cases b <;> decide +kernel
    rw [List.length_cons, Nat.mul_succ]
    omega
theorem shownAll_len : ∀ ds : List Dat, (PyData.shownAll (toPs ds)).length = ds.length
  | [] => rfl
  | d :: ds => by
    show (PyData.shownAll (toPs ds)).length + 1 = ds.length + 1
    rw [shownAll_len ds]
theorem flat_len {ds : List Dat} (h : ∀ d ∈ ds, flat d) (hl : ds.length ≤ 9) : (toP (.lst ds)).shown.length ≤ PySem.sizeLine := by
  have h1 := listText_len_le (PyData.shownAll (toPs ds))
  have h2 := flat_sum h
  rw [shownAll_len] at h1
  exact Nat.le_trans h1 (line_ge (by omega))
theorem flat_i {i : Int} {k : Nat} (h : i.natAbs < 2 ^ k) (hk : k ≤ 1000) : flat (.int i) := .inl ⟨i, rfl, Nat.lt_of_lt_of_le h (Nat.pow_le_pow_right (by decide) hk)⟩
theorem flat_b {b : Bool} : flat (.bl b) := .inr ⟨b, rfl⟩
theorem flat_l : ∀ d ∈ ([] : List Dat), flat d := fun _ h => nomatch h
theorem flat_c {a : Dat} {l : List Dat} (h : flat a) (r : ∀ d ∈ l, flat d) : ∀ d ∈ a :: l, flat d := fun d hd => by
  rcases List.mem_cons.mp hd with rfl | hd
  · exact h
  · exact r d hd
/-! ### equal data -/
theorem can_of {d : Dat} (h : shp d = true) : (toP d).canLay0 = true := SeqAt.canLay_of_shaped (Bool.and_eq_true_iff.mp h).2
section
variable {c : Ct} {cs : Cells} {q r : Rat} {d : Dat}
theorem w_neSame (h : shp d = true) : ROD c cs (uNe c.K) d d (.bl false) := by
  have := w_in (c := c) (cs := cs) (d_neD h h)
  rw [SeqAt.eqv_refl _ (can_of h)] at this
  exact this
theorem w_eqSame (h : shp d = true) : ROD c cs (uEq c.K) d d (.bl true) := by
  have := w_ie (c := c) (cs := cs) (d_eqD h h)
  rw [SeqAt.eqv_refl _ (can_of h)] at this
  exact this
theorem shp_pr : shp (pr q) = true := rfl
theorem eqv_pr : PyData.eqv (toP (pr q)) (toP (pr r)) = decide (q = r) := by
  show (q.num == r.num && ((q.den : Int) == (r.den : Int) && true)) = decide (q = r)
  rw [Bool.and_true, ← eq_parts]
  rfl
theorem w_nePr : ROD c cs (uNe c.K) (pr q) (pr r) (.bl (!decide (q = r))) := by
  have := w_in (c := c) (cs := cs) (d_neD (shp_pr (q := q)) (shp_pr (q := r)))
  rw [eqv_pr] at this
  exact this
theorem w_eqPr : ROD c cs (uEq c.K) (pr q) (pr r) (.bl (decide (q = r))) := by
  have := w_ie (c := c) (cs := cs) (d_eqD (shp_pr (q := q)) (shp_pr (q := r)))
  rw [eqv_pr] at this
  exact this
end
theorem prs_ok : ∀ l : List Rat, plains (l.map pr) = true ∧ PyData.canLayAll0 (toPs (l.map pr)) = true ∧ PyData.depthAll (toPs (l.map pr)) ≤ 1
  | [] => ⟨rfl, rfl, Nat.zero_le _⟩
  | q :: l => by
    obtain ⟨h1, h2, h3⟩ := prs_ok l
    refine ⟨h1, h2, ?_⟩
    show max 1 (PyData.depthAll (toPs (l.map pr))) ≤ 1
    omega
theorem shp_prs (l : List Rat) : shp (.lst (l.map pr)) = true := by
  obtain ⟨h1, h2, h3⟩ := prs_ok l
  show (plains (l.map pr) && (PyData.canLayAll0 (toPs (l.map pr)) && decide (PyData.depthAll (toPs (l.map pr)) + 1 ≤ 64))) = true
  rw [h1, h2, decide_eq_true (by omega)]
  rfl
theorem rat_inj {K : PySem.W.Frag} {q r : Rat} (h : rat K q = rat K r) : q = r := num_inj (a := .r q) (b := .r r) h
theorem bd_sm {q : Rat} (h : Bd 60 q) : Sm q.num ∧ Sm q.den := ⟨Nat.lt_trans h.1 (by decide), by show (q.den : Int).natAbs < 10 ^ 60; rw [Int.natAbs_natCast]; exact Nat.lt_trans h.2 (by decide)⟩
theorem w_neStr {c : Ct} {cs : Cells} {z : PySem.Str} : ROD c cs (uNe c.K) (.str z) (.str z) (.bl false) := by
  have := w_in (c := c) (cs := cs) (d_neS (i := z) (j := z))
  simp only [decide_true, Bool.not_true] at this
  exact this
theorem v_shown {c : Ct} {cs : Cells} {Δ : Sts} {tr : TA} {q : Rat} (h : EVL c cs Δ tr [pr q]) (h1 : Sm q.num) (h2 : Sm q.den) : EVD c cs Δ (tG (rFn 1 0 ((S__law_shown c.K).sp c.K) idv E0) tr tNil) (.str (shw q)) := ev_fs (S := S__law_shown c.K) q h ea_nil gives_id ⟨h1, h2⟩ (.inr fun _ z => z)
theorem b_noN {c : Ct} {cs : Cells} {Δ : Sts} {tt : TT} {tu : TS} {po : Po} {p : Bool} (h : EVT c cs Δ tt p) (e : p = false) (k : po.nx cs Δ) : STS c cs Δ (tIfS tt tu tNext) po := s_no (h.to e) (s_next k (Le.refl _))
theorem shw_int (n : Int) : shw (n : Rat) = txt n := by
  unfold shw
  rw [Rat.den_intCast, Rat.num_intCast, if_pos rfl]
/-! ### _law_one_right -/
def S__law_one_right (K : PySem.W.Frag) : FS (Int × Int) where
  arg x := [.tup [.int x.1, .int x.2]]
  ok _ x := Dr x.1 x.2
  res _ d := d = .bl true
theorem dr_8000 {a b : Int} (h : Dr a b) : b.natAbs < 2 ^ 8000 := Nat.lt_trans h.2.2 (Nat.pow_lt_pow_right (by decide) (by decide))
theorem dr_bd {a b : Int} (h : Dr a b) : Bd 60 (Rat.divInt a b) := bd_fr h.1 h.2.1 h.2.2
theorem neg_parts (q : Rat) : Rat.divInt (-q.num) q.den = -q := by rw [neg_fr, Int.zero_sub]
theorem bd_abs {k : Nat} {q : Rat} (h : Bd k q) : Bd k (absR q) := ⟨by show (q.num.natAbs : Int).natAbs < _; rw [Int.natAbs_natCast]; exact h.1, h.2⟩
theorem f__law_one_right {P : Program} {w : World} {K : PySem.W.Frag} {mg : PySem.Str → Option Value} {base : Heap} (T : Tx K mg) {fd : FuncData} (F : FunD K d__law_one_right.name d__law_one_right.qual d__law_one_right.params d__law_one_right.body d__law_one_right.scope (d__law_one_right.dvs K) (d__law_one_right.kws K) (d__law_one_right.at_ K) fd) : FnG P w K mg base CX0 7 (d__law_one_right.at_ K) fd ["drawn"] ((S__law_one_right K).sp K) := by
  have nd := sc__law_one_right.nd
  refine fn_g F sc__law_one_right (FS.len fun x => by first | rfl | (cases x <;> rfl) | (obtain ⟨_, x⟩ := x; cases x <;> rfl)) fun cdv A fr s H vs Q E hr h => ⟨_, PSs.nox (pss_cons (ps_set (i := 1) nd rfl (Or.inl rfl) (pe_g (ks := []) rfl (T.g_ "_law_low") (T.k_ "_law_low") (k__law_low (j := 6) T hr) (pa_cons (pe_ix (x_ix T) (pv 0) pe_int fun _ _ => rfl) (pa_cons (pe_ix (x_ix T) (pv 0) pe_int fun _ _ => rfl) pa_nil)) pk_nil))
      (pss_cons (ps_for PassesOwn.never rfl (x_any T (pe_lst (pa_cons (pe_g (ks := []) rfl (T.g_ "Ratio") (T.k_ "Ratio") (mk_Ratio_2 (j := 6) T hr) (pa_cons (pe_ix (x_ix T) (pv 0) pe_int fun _ _ => rfl) (pa_cons (pe_ix (x_ix T) (pv 0) pe_int fun _ _ => rfl) pa_nil)) pk_nil) (pa_cons (pe_g0 (ks := ["bottom", "top"]) rfl (T.g_ "Ratio") (T.k_ "Ratio") (mk_Ratio_0_bottom_top (j := 6) T hr) (pk_cons (pe_ix (x_ix T) (pv 0) pe_int fun _ _ => rfl) (pk_cons (pe_ix (x_ix T) (pv 0) pe_int fun _ _ => rfl) pk_nil))) pa_nil)))) (pg_name (i := 2) nd rfl (Or.inl rfl)) (pss_cons (ps_set (i := 3) nd rfl (Or.inl rfl) (pe_lst (pa_cons (p_Ratio_top (j := 6) T hr (pv 2)) (pa_cons (p_Ratio_bottom (j := 6) T hr (pv 2)) (pa_cons (p_Ratio_sign (j := 6) T hr (pv 2)) (pa_cons (p_Ratio_is_whole (j := 6) T hr (pv 2)) pa_nil))))))
      (pss_cons (ps_if (pt_cmpR (u_ne (j := 6) T hr) (pe_callB (u_repr (j := 6) T hr) rfl (T.f_ "repr") PyProof.Rows.boot_repr (pa_cons (pv 3) pa_nil)) (pe_callB (u_repr (j := 6) T hr) rfl (T.f_ "repr") PyProof.Rows.boot_repr (pa_cons (pe_lst (pa_cons (pe_ix (x_ix T) (pv 1) pe_int fun _ _ => rfl) (pa_cons (pe_ix (x_ix T) (pv 1) pe_int fun _ _ => rfl) (pa_cons (pe_op (u_sub (j := 6) T hr) (pe_callTy k_int rfl (T.f_ "int") PyProof.Rows.boot_int (pa_cons (pe_cmpR o_gt (pe_ix (x_ix T) (pv 1) pe_int fun _ _ => rfl) pe_int (nomark _)) pa_nil)) (pe_callTy k_int rfl (T.f_ "int") PyProof.Rows.boot_int (pa_cons (pe_cmpR o_lt (pe_ix (x_ix T) (pv 1) pe_int fun _ _ => rfl) pe_int (nomark _)) pa_nil))) (pa_cons (pe_cmpR (u_eq (j := 6) T hr) (pe_ix (x_ix T) (pv 1) pe_int fun _ _ => rfl) pe_int (nomark _)) pa_nil))))) pa_nil)) (nomark _)) (pss_one (ps_ret pe_bl)) pss_nil)
      (pss_cons (ps_if (PW.pt (pw_or (pt_cmpR (u_ne (j := 6) T hr) (pe_callTy (u_str (j := 6) T hr) rfl (T.f_ "str") PyProof.Rows.boot_str (pa_cons (pv 2) pa_nil)) (pe_g (ks := []) rfl (T.g_ "_law_shown") (T.k_ "_law_shown") (k__law_shown (j := 6) T hr) (pa_cons (pv 1) pa_nil) pk_nil) (nomark _)) (pw_or1 (pt_cmpR (u_ne (j := 6) T hr) (pe_callB (u_repr (j := 6) T hr) rfl (T.f_ "repr") PyProof.Rows.boot_repr (pa_cons (pv 2) pa_nil)) (pe_op (u_add (j := 6) T hr) (pe_op (u_add (j := 6) T hr) (pe_op (u_add (j := 6) T hr) (pe_op (u_add (j := 6) T hr) pe_str (pe_callTy (u_str (j := 6) T hr) rfl (T.f_ "str") PyProof.Rows.boot_str (pa_cons (pe_ix (x_ix T) (pv 1) pe_int fun _ _ => rfl) pa_nil))) pe_str) (pe_callTy (u_str (j := 6) T hr) rfl (T.f_ "str") PyProof.Rows.boot_str (pa_cons (pe_ix (x_ix T) (pv 1) pe_int fun _ _ => rfl) pa_nil))) pe_str) (nomark _))))) (pss_one (ps_ret pe_bl)) pss_nil)
      (pss_cons (ps_if (PW.pt (pw_or (pt_cmpR (u_ne (j := 6) T hr) (pe_g (ks := []) rfl (T.g_ "_law_pair") (T.k_ "_law_pair") (k__law_pair (j := 6) T hr) (pa_cons (pe_un (u_neg (j := 6) T hr) (pv 2)) pa_nil) pk_nil) (pe_g (ks := []) rfl (T.g_ "_law_low") (T.k_ "_law_low") (k__law_low (j := 6) T hr) (pa_cons (pe_un (u_neg (j := 6) T hr) (pe_ix (x_ix T) (pv 1) pe_int fun _ _ => rfl)) (pa_cons (pe_ix (x_ix T) (pv 1) pe_int fun _ _ => rfl) pa_nil)) pk_nil) (nomark _)) (pw_or1 (pt_cmpR (u_ne (j := 6) T hr) (pe_g (ks := []) rfl (T.g_ "_law_pair") (T.k_ "_law_pair") (k__law_pair (j := 6) T hr) (pa_cons (pe_gm0 (ks := []) (pv 2) T.Ratio_cl (T.m_Ratio "size") (k_Ratio_size (j := 6) T hr) pk_nil) pa_nil) pk_nil) (pe_tup (pa_cons (pe_callB k_abs rfl (T.f_ "abs") PyProof.Rows.boot_abs (pa_cons (pe_ix (x_ix T) (pv 1) pe_int fun _ _ => rfl) pa_nil)) (pa_cons (pe_ix (x_ix T) (pv 1) pe_int fun _ _ => rfl) pa_nil))) (nomark _))))) (pss_one (ps_ret pe_bl)) pss_nil)
      (pss_one (ps_if (PW.pt (pw_or (pt_not (pt_val (pe_callB (x_isi T) rfl (T.f_ "isinstance") PyProof.Rows.boot_isinstance (pa_cons (pe_un (u_neg (j := 6) T hr) (pv 2)) (pa_cons (pe_glob (v := .ref _) rfl (T.g_ "Ratio") rfl) pa_nil))))) (pw_or1 (pt_not (pt_val (pe_callB (x_isi T) rfl (T.f_ "isinstance") PyProof.Rows.boot_isinstance (pa_cons (pe_gm0 (ks := []) (pv 2) T.Ratio_cl (T.m_Ratio "size") (k_Ratio_size (j := 6) T hr) pk_nil) (pa_cons (pe_glob (v := .ref _) rfl (T.g_ "Ratio") rfl) pa_nil)))))))) (pss_one (ps_ret pe_bl)) pss_nil)))))))
      (pss_cons (ps_set (i := 4) nd rfl (Or.inl rfl) (pe_g (ks := []) rfl (T.g_ "Ratio") (T.k_ "Ratio") (mk_Ratio_1 (j := 6) T hr) (pa_cons (pe_ix (x_ix T) (pv 0) pe_int fun _ _ => rfl) pa_nil) pk_nil))
      (pss_one (ps_ret (pe_and (pe_cmpR (u_eq (j := 6) T hr) (pe_g (ks := []) rfl (T.g_ "_law_pair") (T.k_ "_law_pair") (k__law_pair (j := 6) T hr) (pa_cons (pv 4) pa_nil) pk_nil) (pe_tup (pa_cons (pe_ix (x_ix T) (pv 0) pe_int fun _ _ => rfl) (pa_cons pe_int pa_nil))) (nomark _)) (pe_and (pe_cmpR o_is (p_Ratio_is_whole (j := 6) T hr (pv 4)) pe_bl (nomark _)) (pe_one (pe_cmpR (u_eq (j := 6) T hr) (pe_callTy (u_str (j := 6) T hr) rfl (T.f_ "str") PyProof.Rows.boot_str (pa_cons (pv 4) pa_nil)) (pe_callTy (u_str (j := 6) T hr) rfl (T.f_ "str") PyProof.Rows.boot_str (pa_cons (pe_ix (x_ix T) (pv 0) pe_int fun _ _ => rfl) pa_nil)) (nomark _)))))))))), FS.body h fun x W ok => ?_⟩
  try dsimp only [cxOf, Cx.nox, Cx.blk]
  obtain ⟨a, b⟩ := x
  have dr : Dr a b := ok
  have hb := dr_8000 dr
  have bq := dr_bd dr
  have b35 := bd_le bq (show 60 ≤ 3500 by decide)
  obtain ⟨s1, s2⟩ := bd_sm bq
  refine at_ [some (.tup [.int a, .int b]), none, none, none, none] rfl ?_
  apply b_asg (d := pr (Rat.divInt a b))
  · refine v_low ?_ dr.1 hb
    walk_at "dv ea"
  generalize hqe : Rat.divInt a b = q at bq b35 s1 s2
  have m1 := sm_1920 s1
  have m2 := sm_1920 s2
  have l1 := sm_len s1
  have l2 := sm_len s2
  have hfl : ∀ d ∈ ([.int q.num, .int (q.den : Int), .int ((if decide ((0 : Int) < q.num) then 1 else 0) - (if decide (q.num < 0) then 1 else 0)), .bl (decide ((q.den : Int) = 1))] : List Dat), flat d := by
    refine flat_c (flat_i bq.1 (by decide)) (flat_c (flat_i (k := 60) (by rw [Int.natAbs_natCast]; exact bq.2) (by decide)) (flat_c (flat_i (k := 60) ?_ (by decide)) (flat_c flat_b flat_l)))
    refine Nat.lt_of_le_of_lt (m := 2) ?_ (by decide)
    split <;> split <;> decide
  refine q_forD (ds := [rat K q, rat K q]) (fun i cs Δ => cs = [] ∧ ∃ o1 o2, Δ = [some (.tup [.int a, .int b]), some (.tup [.int q.num, .int (q.den : Int)]), o1, o2, none]) (f_anyL ?_) ⟨rfl, none, none, rfl⟩ ?_ ?_
  · refine a_lst (ea_cons (EVD.to (v_mk2 (a := a) (b := b) ?_ dr.1 hb) (by rw [hqe])) (ea_cons (EVD.to (v_mkK (a := a) (b := b) ?_ dr.1 hb) (by rw [hqe])) ea_nil)) (by simp)
    · walk_at "dv ea"
    · walk_at "dv ea"
  · rintro i d cs' Δ' hd ⟨rfl, o1, o2, rfl⟩
    have hd : d = rat K q := by
      have := List.mem_of_getElem? hd
      simpa using this
    subst hd
    refine at_ [some (.tup [.int a, .int b]), some (.tup [.int q.num, .int (q.den : Int)]), some (rat K q), o2, none] rfl ?_
    apply b_asg (d := .lst [.int q.num, .int (q.den : Int), .int ((if decide ((0 : Int) < q.num) then 1 else 0) - (if decide (q.num < 0) then 1 else 0)), .bl (decide ((q.den : Int) = 1))])
    · exact a_lst (ea_cons (v_prop (f := fun q => .int q.num) (a_var rfl)) (ea_cons (v_prop (f := fun q => .int (q.den : Int)) (a_var rfl)) (ea_cons (v_prop (f := fun q => .int ((if decide ((0 : Int) < q.num) then 1 else 0) - (if decide (q.num < 0) then 1 else 0))) (a_var rfl)) (ea_cons (v_prop (f := fun q => .bl (decide ((q.den : Int) = 1))) (a_var rfl)) ea_nil)))) (by simp)
    apply b_no (p := false)
    · refine et_testD (ev_op (ev_cb (ea_cons (a_var rfl) ea_nil) (w_reprL (flat_rpr hfl) (flat_len hfl (by simp)))) (ev_cb (ea_cons (d := .lst [.int q.num, .int (q.den : Int), .int ((if decide ((0 : Int) < q.num) then 1 else 0) - (if decide (q.num < 0) then 1 else 0)), .bl (decide ((q.den : Int) = 1))]) ?_ ea_nil) (w_reprL (flat_rpr hfl) (flat_len hfl (by simp)))) ?_)
      · refine a_lst (ea_cons ?_ (ea_cons ?_ (ea_cons ?_ (ea_cons (ev_op (b := .int 1) ?_ ev_int (w_ie d_eqI)) ea_nil)))) (by simp)
        · walk_at "dv ev"
        · walk_at "dv ev"
        · refine ev_op (a := .int _) (b := .int _) ?_ ?_ (w_is d_sub)
          · walk_at "dv ev"
          · walk_at "dv ev"
        · walk_at "dv ev"
      · exact w_neStr
    · rfl
    apply b_no (p := false || false)
    · refine et_or (et_testD (ev_op (ev_cb (ea_cons (a_var rfl) ea_nil) (w_strR s1 s2)) (v_shown (q := q) (ea_cons (a_var rfl) ea_nil) s1 s2) w_neStr)) fun _ => et_testD (ev_op (ev_cb (ea_cons (a_var rfl) ea_nil) (w_reprR s1 s2)) (b := .str (rpq q)) ?_ w_neStr)
      unfold rpq
      have l3 : (PySem.Str.ofString "Ratio(").length = 6 := by decide +kernel
      have l4 : (PySem.Str.ofString ", ").length = 2 := by decide +kernel
      have l5 : (PySem.Str.ofString ")").length = 1 := by decide +kernel
      refine ev_op (ev_op (ev_op (ev_op ev_str (ev_cb (ea_cons ?_ ea_nil) (w_strI m1)) (w_ii (d_addS (line_ge ?_)))) ev_str (w_ii (d_addS (line_ge ?_)))) (ev_cb (ea_cons ?_ ea_nil) (w_strI m2)) (w_ii (d_addS (line_ge ?_)))) ev_str (w_ii (d_addS (line_ge ?_)))
      · walk_at "dv ev"
      · omega
      · rw [strLen_append]; omega
      · walk_at "dv ev"
      · rw [strLen_append, strLen_append]; omega
      · rw [strLen_append, strLen_append, strLen_append]; omega
    · rfl
    apply b_no (p := false || false)
    · refine et_or (et_testD (ev_op (v_pairR (ea_cons (ev_un (a_var rfl) (w_negR b35)) ea_nil)) (EVD.to (v_low (a := -q.num) (b := q.den) (ea_cons (ev_un (a := .int q.num) ?_ w_neg) (ea_cons ?_ ea_nil)) (den_ne _) (den_one b35)) (by rw [neg_parts])) (w_neSame shp_pr))) fun _ => et_testD (ev_op (v_pairR (ea_cons (v_size (a_var rfl) b35) ea_nil)) (EVD.to (d := .tup [.int q.num.natAbs, .int q.den]) ?_ rfl) (w_neSame shp_pr))
      · walk_at "dv ev"
      · walk_at "dv ev"
      · walk_at "dv ev"
    · rfl
    apply b_noN (p := !true || !true)
    · exact et_or (et_not (et_BD (isiRr T (ev_un (a_var rfl) (w_negR b35))))) fun _ => et_not (et_BD (isiRr T (v_size (a_var rfl) b35)))
    · rfl
    · exact ⟨rfl, _, _, rfl⟩
  · rintro cs' Δ' ⟨rfl, o1, o2, rfl⟩
    have ba : Bd 60 (a : Rat) := bd_int dr.2.1 (by decide)
    obtain ⟨t1, t2⟩ := bd_sm ba
    apply b_asg (d := rat K (a : Rat))
    · apply v_mk1
      walk_at "dv ea"
    apply b_retD (d := .bl true)
    · refine EVD.to (d := .bl (true && (true && true))) (a_and (ev_op (v_pairR (ea_cons (a_var rfl) ea_nil)) (EVD.to (d := .tup [.int a, .int 1]) ?_ (pr_int a).symm) (w_eqSame shp_pr)) fun _ => a_and (ev_op (EVD.to (v_prop (f := fun q => .bl (decide ((q.den : Int) = 1))) (q := (a : Rat)) (a_var rfl)) (d' := .bl true) ?_) ev_bl d_isB) fun _ => EVD.to (ev_op (ev_cb (ea_cons (a_var rfl) ea_nil) (w_strR t1 t2)) (ev_cb (ea_cons (d := .int a) ?_ ea_nil) (w_strI ?_)) (w_ie d_eqS)) ?_) rfl
      · walk_at "dv ev"
      · show Dat.bl _ = .bl true
        rw [Rat.den_intCast]
        rfl
      · walk_at "dv ev"
      · exact Nat.lt_trans (log_lt dr.2.1 (by decide)) (by decide)
      · show Dat.bl (decide (shw (a : Rat) = txt a)) = .bl true
        rw [shw_int, decide_eq_true rfl]
    · rfl
theorem g__law_one_right {P : Program} {w : World} {K : PySem.W.Frag} {mg : PySem.Str → Option Value} {base : Heap} (T : Tx K mg) : CxG P w K mg base CX0 (He.ga K "_law_one_right") 7 1 [] ((S__law_one_right K).sp K) idv := by
  obtain ⟨fd, F⟩ := T.c.def_ 39 (d := d__law_one_right) rfl
  exact ⟨fd, _, _, f__law_one_right T F, kb_plain F 1 [] (fun us _ => us) (fun a _ => a) fun _ _ _ _ _ _ us ws h1 h2 => match us, h1, ws, h2 with | [_], _, [], _ => rfl⟩
theorem k__law_one_right {X : Cx} {K : PySem.W.Frag} {mg : PySem.Str → Option Value} {j : Nat} (T : Tx K mg) (hr : RoomG j X.A) (hj : 7 ≤ j := by decide) (hX : AtX X K mg := by exact ⟨rfl, rfl⟩) : CanG X (.ref (He.ga K "_law_one_right")) [] (rFn 1 0 ((S__law_one_right K).sp K) idv E0) := by
  obtain ⟨rfl, rfl⟩ := hX
  exact can_cx (g__law_one_right T) (hr.le hj) pass0
end DV

set_option Elab.async false
set_option autoImplicit false
set_option linter.all false
set_option maxRecDepth 100000
set_option maxHeartbeats 4000000
namespace DV
open PySem PySem.Spec PyProof.Rows L2
/-! ### tactics: evaluate what stands there -/
local macro_rules | `(tactic| walk_at "dv sz") => `(tactic| first | assumption | exact cm_nn (by assumption) (by assumption) (by decide) | exact cm_nd (by assumption) (by assumption) (by decide) | exact cm_dn (by assumption) (by assumption) (by decide) | exact cm_dd (by assumption) (by assumption) (by decide) | decide | omega | (simp; done))
local macro_rules | `(tactic| walk_at "dv rop") => `(tactic| first
  | with_reducible exact d_add | with_reducible exact d_sub | with_reducible exact d_lt | with_reducible exact d_le | with_reducible exact d_gt | with_reducible exact d_ge
  | with_reducible exact d_eqI | with_reducible exact d_neI | with_reducible exact d_eqS | with_reducible exact d_neS | with_reducible exact d_eqB | with_reducible exact d_neB | with_reducible exact d_isB
  | ((with_reducible apply d_mul); walk_at "dv sz") | ((with_reducible apply d_fd); walk_at "dv sz") | ((with_reducible apply d_mod); walk_at "dv sz") | ((with_reducible apply d_pow); walk_at "dv sz")
  | ((with_reducible apply d_ixL); exact rfl) | ((with_reducible apply d_ixT); exact rfl)
  | ((with_reducible apply d_addL); walk_at "dv sz") | ((with_reducible apply d_addS); walk_at "dv sz"))
local macro_rules | `(tactic| walk_at "dv rcp") => `(tactic| first
  | with_reducible exact d_abs | with_reducible exact d_max | with_reducible exact d_min | with_reducible exact d_intI | with_reducible exact d_intB | with_reducible exact d_lenL | with_reducible exact d_lenT | with_reducible exact d_tupL | with_reducible exact d_tupT
  | ((with_reducible apply d_str); walk_at "dv sz") | ((with_reducible apply d_divmod); walk_at "dv sz"))
local macro_rules | `(tactic| walk_at "dv ea") => `(tactic| first
  | with_reducible exact ea_nil
  | ((with_reducible apply ea_cons); (walk_at "dv ev"); (walk_at "dv ea")))
local macro_rules | `(tactic| walk_at "dv et") => `(tactic| first
  | ((with_reducible apply et_not); walk_at "dv et")
  | ((with_reducible apply et_and); (walk_at "dv et"); (intro _; walk_at "dv et"))
  | ((with_reducible apply et_or); (walk_at "dv et"); (intro _; walk_at "dv et"))
  | ((with_reducible apply et_testD); walk_at "dv ev")
  | ((with_reducible apply et_BD); walk_at "dv ev"))
local macro_rules | `(tactic| walk_at "dv call") => `(tactic| fail "no call")
local macro_rules | `(tactic| walk_at "dv ev") => `(tactic| first
  | with_reducible exact ev_int | with_reducible exact ev_str | with_reducible exact ev_bl | with_reducible exact ev_non | with_reducible exact ev_obj
  | ((with_reducible apply a_var); exact rfl)
  | ((with_reducible apply ev_op); (walk_at "dv ev"); (walk_at "dv ev"); (walk_at "dv rop"))
  | ((with_reducible apply ev_un); (walk_at "dv ev"); with_reducible exact d_neg)
  | ((with_reducible apply a_tup); (walk_at "dv ea"); (walk_at "dv sz"))
  | ((with_reducible apply a_lst); (walk_at "dv ea"); (walk_at "dv sz"))
  | ((with_reducible apply v_ftop (by assumption)); walk_at "dv ev")
  | ((with_reducible apply v_fbot (by assumption)); walk_at "dv ev")
  | ((with_reducible apply ev_cb); (walk_at "dv ea"); (walk_at "dv rcp"))
  | ((with_reducible apply a_and); (walk_at "dv ev"); (intro _; walk_at "dv ev"))
  | ((with_reducible apply a_or); (walk_at "dv ev"); (intro _; walk_at "dv ev"))
  | ((with_reducible apply ev_notV); walk_at "dv ev")
  | walk_at "dv call")
theorem lt_dec (q r : Rat) : decide (q < r) = (!decide (q = r) && decide (q ≤ r)) := by
  rw [Bool.eq_iff_iff]
  simp only [Bool.and_eq_true, decide_eq_true_iff, Bool.not_eq_true', decide_eq_false_iff_not]
  grind
theorem bd_inv {k : Nat} {r : Rat} (h : Bd k r) (h0 : r.num ≠ 0) : Bd k (Rat.divInt r.den r.num) := bd_fr h0 (by rw [Int.natAbs_natCast]; exact h.2) h.1
theorem num_35 {r : Rat} (h : Bd 3500 r) : r.num.natAbs < 2 ^ 8000 := Nat.lt_trans h.1 (Nat.pow_lt_pow_right (by decide) (by decide))
theorem times_inv (q r : Rat) : q * Rat.divInt r.den r.num = q / r := by rw [Rat.div_def, Rat.inv_def]
section
variable {c : Ct} {cs : Cells} {Δ : Sts} {te : TE} {i : Nat} {mg : PySem.Str → Option Value}
theorem wiped {d : Dat} (hi : i < Δ.length) : ((wipeD Δ [i]).set i (some d))[i]? = some (some d) := by
  refine List.getElem?_set_self ?_
  show i < (Δ.set i none).length
  rw [List.length_set]
  exact hi
/-- all([isinstance(x, Ratio) for x in e]) -/
theorem v_allR (T : Tx c.K mg) (qs : List Rat) (h : EVD c cs Δ te (.lst (qs.map (rat c.K)))) (hl : qs.length ≤ 100) (hi : i < Δ.length) :
    EVD c cs Δ (tCB (rAll c.K) (tCons (tLc (iAny c.K te) (gName i) tYes (tCB (bIsi c.K) (tCons (tVar i) (tCons (tC (.ref (cR c.K))) tNil))) [i]) tNil)) (.bl true) := by
  have e : (qs.map fun _ => Dat.bl true) = (qs.map fun _ => true).map Dat.bl := by rw [List.map_map]; rfl
  have g := en_mapD (i := i) qs (rat c.K) (fun _ => .bl true) (f_anyL h) (by omega) (by simp) (fun _ _ _ _ _ => rfl) (fun q _ => isiRr T (a_var (wiped hi)))
  rw [e] at g
  refine EVD.to (ev_cb (ea_cons g ea_nil) d_all) ?_
  congr 1
  rw [List.all_map]
  exact List.all_eq_true.mpr fun _ _ => rfl
/-- [_law_pair(x) for x in e] -/
theorem v_pairsR (qs : List Rat) (h : EVD c cs Δ te (.lst (qs.map (rat c.K)))) (hl : qs.length ≤ 100) (hi : i < Δ.length) :
    EVD c cs Δ (tLc (iAny c.K te) (gName i) tYes (tG (rFn 1 0 ((S__law_pair c.K).sp c.K) idv E0) (tCons (tVar i) tNil) tNil) [i]) (.lst (qs.map pr)) :=
  en_mapD (i := i) qs (rat c.K) pr (f_anyL h) (by omega) (by simp) (fun _ _ _ _ e => by rw [rat_inj e]) (fun q _ => v_pairR (ea_cons (a_var (wiped hi)) ea_nil))
end
def S__law_two_right (K : PySem.W.Frag) : FS ((Int × Int) × (Int × Int)) where
  arg x := [.tup [.int x.1.1, .int x.1.2], .tup [.int x.2.1, .int x.2.2]]
  ok _ x := Dr x.1.1 x.1.2 ∧ Dr x.2.1 x.2.2
  res _ d := d = .bl true
theorem f__law_two_right {P : Program} {w : World} {K : PySem.W.Frag} {mg : PySem.Str → Option Value} {base : Heap} (T : Tx K mg) {fd : FuncData} (F : FunD K d__law_two_right.name d__law_two_right.qual d__law_two_right.params d__law_two_right.body d__law_two_right.scope (d__law_two_right.dvs K) (d__law_two_right.kws K) (d__law_two_right.at_ K) fd) : FnG P w K mg base CX0 7 (d__law_two_right.at_ K) fd ["one", "other"] ((S__law_two_right K).sp K) := by
  have nd := sc__law_two_right.nd
  refine fn_g F sc__law_two_right (FS.len fun x => by first | rfl | (cases x <;> rfl) | (obtain ⟨_, x⟩ := x; cases x <;> rfl)) fun cdv A fr s H vs Q E hr h => ⟨_, PSs.nox (pss_cons (ps_par (i := 2) (j := 3) rfl nd rfl rfl (by decide) rfl rfl (pa_cons (pe_g (ks := []) rfl (T.g_ "Ratio") (T.k_ "Ratio") (mk_Ratio_2 (j := 6) T hr) (pa_cons (pe_ix (x_ix T) (pv 0) pe_int fun _ _ => rfl) (pa_cons (pe_ix (x_ix T) (pv 0) pe_int fun _ _ => rfl) pa_nil)) pk_nil) (pa_cons (pe_g (ks := []) rfl (T.g_ "Ratio") (T.k_ "Ratio") (mk_Ratio_2 (j := 6) T hr) (pa_cons (pe_ix (x_ix T) (pv 1) pe_int fun _ _ => rfl) (pa_cons (pe_ix (x_ix T) (pv 1) pe_int fun _ _ => rfl) pa_nil)) pk_nil) pa_nil)) rfl)
      (pss_cons (ps_par (i := 4) (j := 5) rfl nd rfl rfl (by decide) rfl rfl (pa_cons (pe_g (ks := []) rfl (T.g_ "_law_low") (T.k_ "_law_low") (k__law_low (j := 6) T hr) (pa_cons (pe_ix (x_ix T) (pv 0) pe_int fun _ _ => rfl) (pa_cons (pe_ix (x_ix T) (pv 0) pe_int fun _ _ => rfl) pa_nil)) pk_nil) (pa_cons (pe_g (ks := []) rfl (T.g_ "_law_low") (T.k_ "_law_low") (k__law_low (j := 6) T hr) (pa_cons (pe_ix (x_ix T) (pv 1) pe_int fun _ _ => rfl) (pa_cons (pe_ix (x_ix T) (pv 1) pe_int fun _ _ => rfl) pa_nil)) pk_nil) pa_nil)) rfl)
      (pss_cons (ps_set (i := 6) nd rfl (Or.inl rfl) (pe_g (ks := []) rfl (T.g_ "_law_low") (T.k_ "_law_low") (k__law_low (j := 6) T hr) (pa_cons (pe_un (u_neg (j := 6) T hr) (pe_ix (x_ix T) (pv 5) pe_int fun _ _ => rfl)) (pa_cons (pe_ix (x_ix T) (pv 5) pe_int fun _ _ => rfl) pa_nil)) pk_nil))
      (pss_cons (ps_set (i := 7) nd rfl (Or.inl rfl) (pe_lst (pa_cons (pe_op (u_add (j := 6) T hr) (pv 2) (pv 3)) (pa_cons (pe_op (u_sub (j := 6) T hr) (pv 2) (pv 3)) (pa_cons (pe_op (u_mul (j := 6) T hr) (pv 2) (pv 3)) pa_nil)))))
      (pss_cons (ps_if (pt_not (pt_val (pe_callB (x_all T rfl) rfl (T.f_ "all") PyProof.Rows.boot_all (pa_cons (pe_lc (own := [("value", 11)]) (g := gName 11) (tt := tYes) rfl nd (x_any T (pv 7)) (blkOk_by (N := N__law_two_right) (sc := defScope s__law_two_right) (by decide +kernel)) (fun _ _ _ _ _ => pg_name (i := 11) nd rfl (Or.inl rfl)) (fun _ _ _ _ _ => pts_nil) (fun _ _ _ _ _ => (pe_callB (x_isi T) rfl (T.f_ "isinstance") PyProof.Rows.boot_isinstance (pa_cons (pv 11) (pa_cons (pe_glob (v := .ref _) rfl (T.g_ "Ratio") rfl) pa_nil))))) pa_nil)))) (pss_one (ps_ret pe_bl)) pss_nil)
      (pss_cons (ps_set (i := 8) nd rfl (Or.inl rfl) (pe_lst (pa_cons (pe_g (ks := []) rfl (T.g_ "_law_plus") (T.k_ "_law_plus") (k__law_plus (j := 6) T hr) (pa_cons (pv 4) (pa_cons (pv 5) pa_nil)) pk_nil) (pa_cons (pe_g (ks := []) rfl (T.g_ "_law_plus") (T.k_ "_law_plus") (k__law_plus (j := 6) T hr) (pa_cons (pv 4) (pa_cons (pv 6) pa_nil)) pk_nil) (pa_cons (pe_g (ks := []) rfl (T.g_ "_law_times") (T.k_ "_law_times") (k__law_times (j := 6) T hr) (pa_cons (pv 4) (pa_cons (pv 5) pa_nil)) pk_nil) pa_nil)))))
      (pss_cons (ps_if (pt_cmpR (u_ne (j := 6) T hr) (pe_lc (own := [("value", 11)]) (g := gName 11) (tt := tYes) rfl nd (x_any T (pv 7)) (blkOk_by (N := N__law_two_right) (sc := defScope s__law_two_right) (by decide +kernel)) (fun _ _ _ _ _ => pg_name (i := 11) nd rfl (Or.inl rfl)) (fun _ _ _ _ _ => pts_nil) (fun _ _ _ _ _ => (pe_g (ks := []) rfl (T.g_ "_law_pair") (T.k_ "_law_pair") (k__law_pair (j := 6) T hr) (pa_cons (pv 11) pa_nil) pk_nil))) (pv 8) (nomark _)) (pss_one (ps_ret pe_bl)) pss_nil)
      (pss_cons (ps_if (PW.pt (pw_or (pt_cmpR (u_ne (j := 6) T hr) (pe_cmpR (u_eq (j := 6) T hr) (pv 2) (pv 3) (nomark _)) (pe_cmpR (u_eq (j := 6) T hr) (pv 4) (pv 5) (nomark _)) (nomark _)) (pw_or1 (pt_cmpR (u_eq (j := 6) T hr) (pe_cmpR (u_ne (j := 6) T hr) (pv 2) (pv 3) (nomark _)) (pe_cmpR (u_eq (j := 6) T hr) (pv 4) (pv 5) (nomark _)) (nomark _))))) (pss_one (ps_ret pe_bl)) pss_nil)
      (pss_cons (ps_par (i := 9) (j := 10) rfl nd rfl rfl (by decide) rfl rfl (pa_cons (pe_g (ks := []) rfl (T.g_ "_law_is_most") (T.k_ "_law_is_most") (k__law_is_most (j := 6) T hr) (pa_cons (pv 4) (pa_cons (pv 5) pa_nil)) pk_nil) (pa_cons (pe_and (pe_cmpR (u_ne (j := 6) T hr) (pv 4) (pv 5) (nomark _)) (pe_one (pe_g (ks := []) rfl (T.g_ "_law_is_most") (T.k_ "_law_is_most") (k__law_is_most (j := 6) T hr) (pa_cons (pv 4) (pa_cons (pv 5) pa_nil)) pk_nil))) pa_nil)) rfl)
      (pss_cons (ps_if (pt_cmpR (u_ne (j := 6) T hr) (pe_callB (u_repr (j := 6) T hr) rfl (T.f_ "repr") PyProof.Rows.boot_repr (pa_cons (pe_lst (pa_cons (pe_gm (ks := []) (pv 2) T.Ratio_cl (T.m_Ratio "is_at_most") (k_Ratio_is_at_most (j := 6) T hr) (pa_cons (pv 3) pa_nil) pk_nil) (pa_cons (pe_gm0 (ks := ["other"]) (pv 2) T.Ratio_cl (T.m_Ratio "is_below") (k_Ratio_is_below_other (j := 6) T hr) (pk_cons (pv 3) pk_nil)) pa_nil))) pa_nil)) (pe_callB (u_repr (j := 6) T hr) rfl (T.f_ "repr") PyProof.Rows.boot_repr (pa_cons (pe_lst (pa_cons (pv 9) (pa_cons (pv 10) pa_nil))) pa_nil)) (nomark _)) (pss_one (ps_ret pe_bl)) pss_nil)
      (pss_cons (ps_if (pt_cmpR (u_ne (j := 6) T hr) (pe_ix (x_ix T) (pv 5) pe_int fun _ _ => rfl) pe_int (nomark _)) (pss_cons (ps_if (pt_cmpR (u_ne (j := 6) T hr) (pe_g (ks := []) rfl (T.g_ "_law_pair") (T.k_ "_law_pair") (k__law_pair (j := 6) T hr) (pa_cons (pe_gm (ks := []) (pv 2) T.Ratio_cl (T.m_Ratio "over") (k_Ratio_over (j := 6) T hr) (pa_cons (pv 3) pa_nil) pk_nil) pa_nil) pk_nil) (pe_g (ks := []) rfl (T.g_ "_law_times") (T.k_ "_law_times") (k__law_times (j := 6) T hr) (pa_cons (pv 4) (pa_cons (pe_g (ks := []) rfl (T.g_ "_law_low") (T.k_ "_law_low") (k__law_low (j := 6) T hr) (pa_cons (pe_ix (x_ix T) (pv 5) pe_int fun _ _ => rfl) (pa_cons (pe_ix (x_ix T) (pv 5) pe_int fun _ _ => rfl) pa_nil)) pk_nil) pa_nil)) pk_nil) (nomark _)) (pss_one (ps_ret pe_bl)) pss_nil)
      (pss_one (ps_if (pt_not (pt_val (pe_callB (x_isi T) rfl (T.f_ "isinstance") PyProof.Rows.boot_isinstance (pa_cons (pe_gm (ks := []) (pv 2) T.Ratio_cl (T.m_Ratio "over") (k_Ratio_over (j := 6) T hr) (pa_cons (pv 3) pa_nil) pk_nil) (pa_cons (pe_glob (v := .ref _) rfl (T.g_ "Ratio") rfl) pa_nil))))) (pss_one (ps_ret pe_bl)) pss_nil))) pss_nil)
      (pss_one (ps_ret (pe_cmpR (u_eq (j := 6) T hr) (pe_lst (pa_cons (pe_g (ks := []) rfl (T.g_ "_law_pair") (T.k_ "_law_pair") (k__law_pair (j := 6) T hr) (pa_cons (pv 2) pa_nil) pk_nil) (pa_cons (pe_g (ks := []) rfl (T.g_ "_law_pair") (T.k_ "_law_pair") (k__law_pair (j := 6) T hr) (pa_cons (pv 3) pa_nil) pk_nil) pa_nil))) (pe_lst (pa_cons (pv 4) (pa_cons (pv 5) pa_nil))) (nomark _))))))))))))))), FS.body h fun x W ok => ?_⟩
  try dsimp only [cxOf, Cx.nox, Cx.blk]
  obtain ⟨⟨a, b⟩, a', b'⟩ := x
  obtain ⟨dr, dr'⟩ := ok
  have hb := dr_8000 dr
  have hb' := dr_8000 dr'
  have bq := dr_bd dr
  have br := dr_bd dr'
  have q35 := bd_le bq (show 60 ≤ 3500 by decide)
  have r35 := bd_le br (show 60 ≤ 3500 by decide)
  refine at_ [some (.tup [.int a, .int b]), some (.tup [.int a', .int b']), none, none, none, none, none, none, none, none, none, none] rfl ?_
  apply b_par (a := rat K (Rat.divInt a b)) (b := rat K (Rat.divInt a' b'))
  · refine ea_cons (v_mk2 ?_ dr.1 hb) (ea_cons (v_mk2 ?_ dr'.1 hb') ea_nil)
    · walk_at "dv ea"
    · walk_at "dv ea"
  apply b_par (a := pr (Rat.divInt a b)) (b := pr (Rat.divInt a' b'))
  · refine ea_cons (v_low ?_ dr.1 hb) (ea_cons (v_low ?_ dr'.1 hb') ea_nil)
    · walk_at "dv ea"
    · walk_at "dv ea"
  generalize Rat.divInt a b = q at bq q35
  generalize Rat.divInt a' b' = r at br r35
  refine at_ [some (.tup [.int a, .int b]), some (.tup [.int a', .int b']), some (rat K q), some (rat K r), some (pr q), some (.tup [.int r.num, .int (r.den : Int)]), none, none, none, none, none, none] rfl ?_
  apply b_asg (d := pr (-r))
  · refine EVD.to (v_low (a := -r.num) (b := r.den) (ea_cons (ev_un (a := .int r.num) ?_ w_neg) (ea_cons ?_ ea_nil)) (den_ne _) (den_one r35)) (by rw [neg_parts])
    · walk_at "dv ev"
    · walk_at "dv ev"
  apply b_asg (d := .lst ([q + r, q - r, q * r].map (rat K)))
  · exact a_lst (ea_cons (ev_op (a_var rfl) (a_var rfl) (w_addR q35 r35)) (ea_cons (ev_op (a_var rfl) (a_var rfl) (w_subR q35 r35)) (ea_cons (ev_op (a_var rfl) (a_var rfl) (w_mulR q35 r35)) ea_nil))) (by simp)
  apply b_no
  · exact et_not (et_BD (v_allR T [q + r, q - r, q * r] (a_var rfl) (by simp) (by simp)))
  · rfl
  apply b_asg (d := .lst ([q + r, q - r, q * r].map pr))
  · refine a_lst (ea_cons (v_plus (q := q) (r := r) (ea_cons (a_var rfl) (ea_cons (a_var rfl) ea_nil)) q35 r35) (ea_cons (EVD.to (v_plus (q := q) (r := -r) (ea_cons (a_var rfl) (ea_cons (a_var rfl) ea_nil)) q35 (bd_neg r35)) (by rw [Rat.sub_eq_add_neg])) (ea_cons (v_times (q := q) (r := r) (ea_cons (a_var rfl) (ea_cons (a_var rfl) ea_nil)) q35 r35) ea_nil))) (by simp)
  apply b_no (p := false)
  · exact et_testD (ev_op (v_pairsR [q + r, q - r, q * r] (a_var rfl) (by simp) (by simp)) (a_var rfl) (w_neSame (shp_prs _)))
  · rfl
  apply b_no (p := (!decide (decide (q = r) = decide (q = r))) || decide ((!decide (q = r)) = decide (q = r)))
  · exact et_or (et_testD (ev_op (ev_op (a_var rfl) (a_var rfl) w_eqR) (ev_op (a := pr q) (b := pr r) (a_var rfl) (a_var rfl) w_eqPr) (w_in d_neB))) fun _ => et_testD (ev_op (ev_op (a_var rfl) (a_var rfl) w_neR) (ev_op (a := pr q) (b := pr r) (a_var rfl) (a_var rfl) w_eqPr) (w_ie d_eqB))
  · cases decide (q = r) <;> rfl
  apply b_par (a := .bl (decide (q ≤ r))) (b := .bl (decide (q < r)))
  · refine ea_cons (v_ismost (q := q) (r := r) (ea_cons (a_var rfl) (ea_cons (a_var rfl) ea_nil)) q35 r35) (ea_cons (EVD.to (a_and (ev_op (a := pr q) (b := pr r) (a_var rfl) (a_var rfl) w_nePr) fun _ => v_ismost (q := q) (r := r) (ea_cons (a_var rfl) (ea_cons (a_var rfl) ea_nil)) q35 r35) (by rw [lt_dec])) ea_nil)
  have hfl : ∀ d ∈ ([.bl (decide (q ≤ r)), .bl (decide (q < r))] : List Dat), flat d := flat_c flat_b (flat_c flat_b flat_l)
  apply b_no (p := false)
  · exact et_testD (ev_op (ev_cb (ea_cons (a_lst (ea_cons (v_most (.r r) (a_var rfl) (ea_cons (a_var rfl) ea_nil) q35 r35) (ea_cons (v_belowK (.r r) (a_var rfl) (ea_cons (a_var rfl) ea_nil) q35 r35) ea_nil)) (by simp)) ea_nil) (w_reprL (flat_rpr hfl) (flat_len hfl (by simp)))) (ev_cb (ea_cons (a_lst (ea_cons (a_var rfl) (ea_cons (a_var rfl) ea_nil)) (by simp)) ea_nil) (w_reprL (flat_rpr hfl) (flat_len hfl (by simp)))) w_neStr)
  · rfl
  refine b_ifq (p := !decide (r.num = 0)) (M := fun cs Δ => cs = [] ∧ Δ = [some (.tup [.int a, .int b]), some (.tup [.int a', .int b']), some (rat K q), some (rat K r), some (pr q), some (.tup [.int r.num, .int (r.den : Int)]), some (pr (-r)), some (.lst ([q + r, q - r, q * r].map (rat K))), some (.lst ([q + r, q - r, q * r].map pr)), some (.bl (decide (q ≤ r))), some (.bl (decide (q < r))), none]) ?_ (fun e => ?_) (fun _ => s_next ⟨rfl, rfl⟩ (Le.refl _)) ?_
  · refine et_testD (ev_op ?_ ev_int (w_in d_neI))
    walk_at "dv ev"
  · have h0 : r.num ≠ 0 := by simpa using e
    have inv35 := bd_inv r35 h0
    apply b_no (p := false)
    · refine et_testD (ev_op (v_pairR (ea_cons (v_over (.r r) (a_var rfl) (ea_cons (a_var rfl) ea_nil) q35 r35 h0) ea_nil)) (EVD.to (v_times (q := q) (r := Rat.divInt r.den r.num) (ea_cons (a_var rfl) (ea_cons (v_low ?_ h0 (num_35 r35)) ea_nil)) q35 inv35) (by rw [times_inv]; rfl)) (w_neSame shp_pr))
      walk_at "dv ea"
    · rfl
    apply b_noN
    · exact et_not (et_BD (isiRr T (v_over (.r r) (a_var rfl) (ea_cons (a_var rfl) ea_nil) q35 r35 h0)))
    · rfl
    · exact ⟨rfl, rfl⟩
  rintro cs' Δ' ⟨rfl, rfl⟩
  apply b_retD (d := .bl true)
  · exact ev_op (a := .lst ([q, r].map pr)) (b := .lst ([q, r].map pr)) (a_lst (ea_cons (v_pairR (ea_cons (a_var rfl) ea_nil)) (ea_cons (v_pairR (ea_cons (a_var rfl) ea_nil)) ea_nil)) (by simp)) (a_lst (ea_cons (a_var rfl) (ea_cons (a_var rfl) ea_nil)) (by simp)) (w_eqSame (shp_prs _))
  · rfl
theorem g__law_two_right {P : Program} {w : World} {K : PySem.W.Frag} {mg : PySem.Str → Option Value} {base : Heap} (T : Tx K mg) : CxG P w K mg base CX0 (He.ga K "_law_two_right") 7 2 [] ((S__law_two_right K).sp K) idv := by
  obtain ⟨fd, F⟩ := T.c.def_ 40 (d := d__law_two_right) rfl
  exact ⟨fd, _, _, f__law_two_right T F, kb_plain F 2 [] (fun us _ => us) (fun a _ => a) fun _ _ _ _ _ _ us ws h1 h2 => match us, h1, ws, h2 with | [_, _], _, [], _ => rfl⟩
theorem k__law_two_right {X : Cx} {K : PySem.W.Frag} {mg : PySem.Str → Option Value} {j : Nat} (T : Tx K mg) (hr : RoomG j X.A) (hj : 7 ≤ j := by decide) (hX : AtX X K mg := by exact ⟨rfl, rfl⟩) : CanG X (.ref (He.ga K "_law_two_right")) [] (rFn 2 0 ((S__law_two_right K).sp K) idv E0) := by
  obtain ⟨rfl, rfl⟩ := hX
  exact can_cx (g__law_two_right T) (hr.le hj) pass0
end DV

set_option Elab.async false
set_option autoImplicit false
set_option linter.all false
set_option maxRecDepth 100000
set_option maxHeartbeats 4000000
namespace DV
open PySem PySem.Spec PyProof.Rows L2
/-! ### tactics: evaluate what stands there -/
local macro_rules | `(tactic| walk_at "dv sz") => `(tactic| first | assumption | exact cm_nn (by assumption) (by assumption) (by decide) | exact cm_nd (by assumption) (by assumption) (by decide) | exact cm_dn (by assumption) (by assumption) (by decide) | exact cm_dd (by assumption) (by assumption) (by decide) | decide | omega | (simp; done))
local macro_rules | `(tactic| walk_at "dv rop") => `(tactic| first
  | with_reducible exact d_add | with_reducible exact d_sub | with_reducible exact d_lt | with_reducible exact d_le | with_reducible exact d_gt | with_reducible exact d_ge
  | with_reducible exact d_eqI | with_reducible exact d_neI | with_reducible exact d_eqS | with_reducible exact d_neS | with_reducible exact d_eqB | with_reducible exact d_neB | with_reducible exact d_isB
  | ((with_reducible apply d_mul); walk_at "dv sz") | ((with_reducible apply d_fd); walk_at "dv sz") | ((with_reducible apply d_mod); walk_at "dv sz") | ((with_reducible apply d_pow); walk_at "dv sz")
  | ((with_reducible apply d_ixL); exact rfl) | ((with_reducible apply d_ixT); exact rfl)
  | ((with_reducible apply d_addL); walk_at "dv sz") | ((with_reducible apply d_addS); walk_at "dv sz"))
local macro_rules | `(tactic| walk_at "dv rcp") => `(tactic| first
  | with_reducible exact d_abs | with_reducible exact d_max | with_reducible exact d_min | with_reducible exact d_intI | with_reducible exact d_intB | with_reducible exact d_lenL | with_reducible exact d_lenT | with_reducible exact d_tupL | with_reducible exact d_tupT
  | ((with_reducible apply d_str); walk_at "dv sz") | ((with_reducible apply d_divmod); walk_at "dv sz"))
local macro_rules | `(tactic| walk_at "dv ea") => `(tactic| first
  | with_reducible exact ea_nil
  | ((with_reducible apply ea_cons); (walk_at "dv ev"); (walk_at "dv ea")))
local macro_rules | `(tactic| walk_at "dv et") => `(tactic| first
  | ((with_reducible apply et_not); walk_at "dv et")
  | ((with_reducible apply et_and); (walk_at "dv et"); (intro _; walk_at "dv et"))
  | ((with_reducible apply et_or); (walk_at "dv et"); (intro _; walk_at "dv et"))
  | ((with_reducible apply et_testD); walk_at "dv ev")
  | ((with_reducible apply et_BD); walk_at "dv ev"))
local macro_rules | `(tactic| walk_at "dv call") => `(tactic| fail "no call")
local macro_rules | `(tactic| walk_at "dv ev") => `(tactic| first
  | with_reducible exact ev_int | with_reducible exact ev_str | with_reducible exact ev_bl | with_reducible exact ev_non | with_reducible exact ev_obj
  | ((with_reducible apply a_var); exact rfl)
  | ((with_reducible apply ev_op); (walk_at "dv ev"); (walk_at "dv ev"); (walk_at "dv rop"))
  | ((with_reducible apply ev_un); (walk_at "dv ev"); with_reducible exact d_neg)
  | ((with_reducible apply a_tup); (walk_at "dv ea"); (walk_at "dv sz"))
  | ((with_reducible apply a_lst); (walk_at "dv ea"); (walk_at "dv sz"))
  | ((with_reducible apply v_ftop (by assumption)); walk_at "dv ev")
  | ((with_reducible apply v_fbot (by assumption)); walk_at "dv ev")
  | ((with_reducible apply ev_cb); (walk_at "dv ea"); (walk_at "dv rcp"))
  | ((with_reducible apply a_and); (walk_at "dv ev"); (intro _; walk_at "dv ev"))
  | ((with_reducible apply a_or); (walk_at "dv ev"); (intro _; walk_at "dv ev"))
  | ((with_reducible apply ev_notV); walk_at "dv ev")
  | walk_at "dv call")
theorem pr_neg (q : Rat) : pr (-q) = .tup [.int (-q.num), .int (q.den : Int)] := by
  unfold pr
  rw [Rat.neg_num, Rat.neg_den]
theorem pr_negI (n : Int) : pr (-(n : Rat)) = .tup [.int (-n), .int 1] := by
  rw [pr_neg, Rat.num_intCast, Rat.den_intCast]
  rfl
def S__law_whole_right (K : PySem.W.Frag) : FS ((Int × Int) × Int) where
  arg x := [.tup [.int x.1.1, .int x.1.2], .int x.2]
  ok _ x := Dr x.1.1 x.1.2 ∧ x.2.natAbs < 2 ^ 70
  res _ d := d = .bl true
theorem inv_int (q : Rat) (n : Int) : q * Rat.divInt 1 n = q / (n : Rat) := by
  have := times_inv q (n : Rat)
  rw [Rat.den_intCast, Rat.num_intCast] at this
  exact this
theorem f__law_whole_right {P : Program} {w : World} {K : PySem.W.Frag} {mg : PySem.Str → Option Value} {base : Heap} (T : Tx K mg) {fd : FuncData} (F : FunD K d__law_whole_right.name d__law_whole_right.qual d__law_whole_right.params d__law_whole_right.body d__law_whole_right.scope (d__law_whole_right.dvs K) (d__law_whole_right.kws K) (d__law_whole_right.at_ K) fd) : FnG P w K mg base CX0 7 (d__law_whole_right.at_ K) fd ["one", "number"] ((S__law_whole_right K).sp K) := by
  have nd := sc__law_whole_right.nd
  refine fn_g F sc__law_whole_right (FS.len fun x => by first | rfl | (cases x <;> rfl) | (obtain ⟨_, x⟩ := x; cases x <;> rfl)) fun cdv A fr s H vs Q E hr h => ⟨_, PSs.nox (pss_cons (ps_par3 (i := 2) (j := 3) (l := 4) rfl nd rfl rfl rfl (by decide) (by decide) (by decide) rfl rfl rfl (pa_cons (pe_g (ks := []) rfl (T.g_ "Ratio") (T.k_ "Ratio") (mk_Ratio_2 (j := 6) T hr) (pa_cons (pe_ix (x_ix T) (pv 0) pe_int fun _ _ => rfl) (pa_cons (pe_ix (x_ix T) (pv 0) pe_int fun _ _ => rfl) pa_nil)) pk_nil) (pa_cons (pe_g (ks := []) rfl (T.g_ "_law_low") (T.k_ "_law_low") (k__law_low (j := 6) T hr) (pa_cons (pe_ix (x_ix T) (pv 0) pe_int fun _ _ => rfl) (pa_cons (pe_ix (x_ix T) (pv 0) pe_int fun _ _ => rfl) pa_nil)) pk_nil) (pa_cons (pe_tup (pa_cons (pv 1) (pa_cons pe_int pa_nil))) pa_nil))) rfl)
      (pss_cons (ps_set (i := 5) nd rfl (Or.inl rfl) (pe_lst (pa_cons (pe_op (u_add (j := 6) T hr) (pv 2) (pv 1)) (pa_cons (pe_op (u_add (j := 6) T hr) (pv 1) (pv 2)) (pa_cons (pe_op (u_sub (j := 6) T hr) (pv 2) (pv 1)) (pa_cons (pe_op (u_sub (j := 6) T hr) (pv 1) (pv 2)) (pa_cons (pe_op (u_mul (j := 6) T hr) (pv 2) (pv 1)) (pa_cons (pe_op (u_mul (j := 6) T hr) (pv 1) (pv 2)) pa_nil))))))))
      (pss_cons (ps_set (i := 6) nd rfl (Or.inl rfl) (pe_lst (pa_cons (pe_g (ks := []) rfl (T.g_ "_law_plus") (T.k_ "_law_plus") (k__law_plus (j := 6) T hr) (pa_cons (pv 3) (pa_cons (pv 4) pa_nil)) pk_nil) (pa_cons (pe_g (ks := []) rfl (T.g_ "_law_plus") (T.k_ "_law_plus") (k__law_plus (j := 6) T hr) (pa_cons (pv 3) (pa_cons (pv 4) pa_nil)) pk_nil) (pa_cons (pe_g (ks := []) rfl (T.g_ "_law_plus") (T.k_ "_law_plus") (k__law_plus (j := 6) T hr) (pa_cons (pv 3) (pa_cons (pe_tup (pa_cons (pe_un (u_neg (j := 6) T hr) (pv 1)) (pa_cons pe_int pa_nil))) pa_nil)) pk_nil) pa_nil)))))
      (pss_cons (ps_set (i := 6) nd rfl (Or.inl rfl) (pe_op (u_add (j := 6) T hr) (pv 6) (pe_lst (pa_cons (pe_g (ks := []) rfl (T.g_ "_law_plus") (T.k_ "_law_plus") (k__law_plus (j := 6) T hr) (pa_cons (pe_tup (pa_cons (pe_un (u_neg (j := 6) T hr) (pe_ix (x_ix T) (pv 3) pe_int fun _ _ => rfl)) (pa_cons (pe_ix (x_ix T) (pv 3) pe_int fun _ _ => rfl) pa_nil))) (pa_cons (pv 4) pa_nil)) pk_nil) (pa_cons (pe_g (ks := []) rfl (T.g_ "_law_times") (T.k_ "_law_times") (k__law_times (j := 6) T hr) (pa_cons (pv 3) (pa_cons (pv 4) pa_nil)) pk_nil) (pa_cons (pe_g (ks := []) rfl (T.g_ "_law_times") (T.k_ "_law_times") (k__law_times (j := 6) T hr) (pa_cons (pv 3) (pa_cons (pv 4) pa_nil)) pk_nil) pa_nil))))))
      (pss_cons (ps_if (PW.pt (pw_or (pt_cmpR (u_ne (j := 6) T hr) (pe_lc (own := [("value", 7)]) (g := gName 7) (tt := tYes) rfl nd (x_any T (pv 5)) (blkOk_by (N := N__law_whole_right) (sc := defScope s__law_whole_right) (by decide +kernel)) (fun _ _ _ _ _ => pg_name (i := 7) nd rfl (Or.inl rfl)) (fun _ _ _ _ _ => pts_nil) (fun _ _ _ _ _ => (pe_g (ks := []) rfl (T.g_ "_law_pair") (T.k_ "_law_pair") (k__law_pair (j := 6) T hr) (pa_cons (pv 7) pa_nil) pk_nil))) (pv 6) (nomark _)) (pw_or1 (pt_not (pt_val (pe_callB (x_all T rfl) rfl (T.f_ "all") PyProof.Rows.boot_all (pa_cons (pe_lc (own := [("value", 7)]) (g := gName 7) (tt := tYes) rfl nd (x_any T (pv 5)) (blkOk_by (N := N__law_whole_right) (sc := defScope s__law_whole_right) (by decide +kernel)) (fun _ _ _ _ _ => pg_name (i := 7) nd rfl (Or.inl rfl)) (fun _ _ _ _ _ => pts_nil) (fun _ _ _ _ _ => (pe_callB (x_isi T) rfl (T.f_ "isinstance") PyProof.Rows.boot_isinstance (pa_cons (pv 7) (pa_cons (pe_glob (v := .ref _) rfl (T.g_ "Ratio") rfl) pa_nil))))) pa_nil))))))) (pss_one (ps_ret pe_bl)) pss_nil)
      (pss_cons (ps_if (pt_cmpR (u_ne (j := 6) T hr) (pe_callB (u_repr (j := 6) T hr) rfl (T.f_ "repr") PyProof.Rows.boot_repr (pa_cons (pe_lst (pa_cons (pe_gm (ks := []) (pv 2) T.Ratio_cl (T.m_Ratio "is_at_most") (k_Ratio_is_at_most (j := 6) T hr) (pa_cons (pv 1) pa_nil) pk_nil) (pa_cons (pe_gm (ks := []) (pv 2) T.Ratio_cl (T.m_Ratio "is_below") (k_Ratio_is_below (j := 6) T hr) (pa_cons (pv 1) pa_nil) pk_nil) pa_nil))) pa_nil)) (pe_callB (u_repr (j := 6) T hr) rfl (T.f_ "repr") PyProof.Rows.boot_repr (pa_cons (pe_lst (pa_cons (pe_g (ks := []) rfl (T.g_ "_law_is_most") (T.k_ "_law_is_most") (k__law_is_most (j := 6) T hr) (pa_cons (pv 3) (pa_cons (pv 4) pa_nil)) pk_nil) (pa_cons (pe_and (pe_cmpR (u_ne (j := 6) T hr) (pv 3) (pv 4) (nomark _)) (pe_one (pe_g (ks := []) rfl (T.g_ "_law_is_most") (T.k_ "_law_is_most") (k__law_is_most (j := 6) T hr) (pa_cons (pv 3) (pa_cons (pv 4) pa_nil)) pk_nil))) pa_nil))) pa_nil)) (nomark _)) (pss_one (ps_ret pe_bl)) pss_nil)
      (pss_cons (ps_if (pt_cmpR (u_ne (j := 6) T hr) (pv 1) pe_int (nomark _)) (pss_cons (ps_if (pt_cmpR (u_ne (j := 6) T hr) (pe_g (ks := []) rfl (T.g_ "_law_pair") (T.k_ "_law_pair") (k__law_pair (j := 6) T hr) (pa_cons (pe_gm0 (ks := ["other"]) (pv 2) T.Ratio_cl (T.m_Ratio "over") (k_Ratio_over_other (j := 6) T hr) (pk_cons (pv 1) pk_nil)) pa_nil) pk_nil) (pe_g (ks := []) rfl (T.g_ "_law_times") (T.k_ "_law_times") (k__law_times (j := 6) T hr) (pa_cons (pv 3) (pa_cons (pe_g (ks := []) rfl (T.g_ "_law_low") (T.k_ "_law_low") (k__law_low (j := 6) T hr) (pa_cons pe_int (pa_cons (pv 1) pa_nil)) pk_nil) pa_nil)) pk_nil) (nomark _)) (pss_one (ps_ret pe_bl)) pss_nil)
      (pss_one (ps_if (pt_not (pt_val (pe_callB (x_isi T) rfl (T.f_ "isinstance") PyProof.Rows.boot_isinstance (pa_cons (pe_gm (ks := []) (pv 2) T.Ratio_cl (T.m_Ratio "over") (k_Ratio_over (j := 6) T hr) (pa_cons (pv 1) pa_nil) pk_nil) (pa_cons (pe_glob (v := .ref _) rfl (T.g_ "Ratio") rfl) pa_nil))))) (pss_one (ps_ret pe_bl)) pss_nil))) pss_nil)
      (pss_one (ps_ret (pe_and (pe_cmpR o_is (pe_cmpR (u_eq (j := 6) T hr) (pv 2) (pv 1) (nomark _)) pe_bl (nomark _)) (pe_one (pe_cmpR o_is (pe_cmpR (u_eq (j := 6) T hr) (pv 1) (pv 2) (nomark _)) pe_bl (nomark _))))))))))))), FS.body h fun x W ok => ?_⟩
  try dsimp only [cxOf, Cx.nox, Cx.blk]
  obtain ⟨⟨a, b⟩, n⟩ := x
  obtain ⟨dr, hn⟩ := ok
  have hb := dr_8000 dr
  have bq := dr_bd dr
  have q35 := bd_le bq (show 60 ≤ 3500 by decide)
  have bn : Bd 70 (n : Rat) := bd_int hn (by decide)
  have n35 := bd_le bn (show 70 ≤ 3500 by decide)
  refine at_ [some (.tup [.int a, .int b]), some (.int n), none, none, none, none, none, none] rfl ?_
  apply b_par3 (a := rat K (Rat.divInt a b)) (b := pr (Rat.divInt a b)) (e := pr (n : Rat))
  · refine ea_cons (v_mk2 ?_ dr.1 hb) (ea_cons (v_low ?_ dr.1 hb) (ea_cons (EVD.to (d := .tup [.int n, .int 1]) ?_ (pr_int n).symm) ea_nil))
    · walk_at "dv ea"
    · walk_at "dv ea"
    · walk_at "dv ev"
  generalize Rat.divInt a b = q at bq q35
  refine at_ [some (.tup [.int a, .int b]), some (.int n), some (rat K q), some (.tup [.int q.num, .int (q.den : Int)]), some (pr (n : Rat)), none, none, none] rfl ?_
  apply b_asg (d := .lst ([q + n, n + q, q - n, n - q, q * n, n * q].map (rat K)))
  · exact a_lst (ea_cons (ev_op (a_var rfl) (a_var rfl) (w_addI q35 n35)) (ea_cons (ev_op (a_var rfl) (a_var rfl) (w_addL q35 n35)) (ea_cons (ev_op (a_var rfl) (a_var rfl) (w_subI q35 n35)) (ea_cons (ev_op (a_var rfl) (a_var rfl) (w_subL q35 n35)) (ea_cons (ev_op (a_var rfl) (a_var rfl) (w_mulI q35 n35)) (ea_cons (ev_op (a_var rfl) (a_var rfl) (w_mulL q35 n35)) ea_nil)))))) (by simp)
  have two : ∀ {c : Ct} {cs : Cells} {Δ : Sts}, Δ[3]? = some (some (.tup [.int q.num, .int (q.den : Int)])) → Δ[4]? = some (some (pr (n : Rat))) → EVL c cs Δ (tCons (tVar 3) (tCons (tVar 4) tNil)) [pr q, pr (n : Rat)] := fun h3 h4 => ea_cons (a_var h3) (ea_cons (a_var h4) ea_nil)
  apply b_asg (d := .lst [pr (q + n), pr (n + q), pr (q - n)])
  · refine a_lst (ea_cons (v_plus (two rfl rfl) q35 n35) (ea_cons (EVD.to (v_plus (two rfl rfl) q35 n35) (by rw [Rat.add_comm])) (ea_cons (EVD.to (v_plus (q := q) (r := -(n : Rat)) (ea_cons (a_var rfl) (ea_cons (EVD.to (d := .tup [.int (-n), .int 1]) (a_tup (ea_cons (ev_un (a_var rfl) w_neg) (ea_cons ev_int ea_nil)) (by simp)) (pr_negI n).symm) ea_nil)) q35 (bd_neg n35)) (by rw [Rat.sub_eq_add_neg])) ea_nil))) (by simp)
  apply b_asg (d := .lst ([q + n, n + q, q - n, n - q, q * n, n * q].map pr))
  · refine ev_op (a := .lst [pr (q + n), pr (n + q), pr (q - n)]) (b := .lst [pr (n - q), pr (q * n), pr (n * q)]) (a_var rfl) (a_lst (ea_cons (EVD.to (v_plus (q := -q) (r := (n : Rat)) (ea_cons (EVD.to (d := .tup [.int (-q.num), .int (q.den : Int)]) (a_tup (ea_cons (ev_un (a := .int q.num) ?_ w_neg) (ea_cons ?_ ea_nil)) (by simp)) (pr_neg q).symm) (ea_cons (a_var rfl) ea_nil)) (bd_neg q35) n35) (by rw [Rat.sub_eq_add_neg, Rat.add_comm])) (ea_cons (v_times (two rfl rfl) q35 n35) (ea_cons (EVD.to (v_times (two rfl rfl) q35 n35) (by rw [Rat.mul_comm])) ea_nil))) (by simp)) (w_ii (d_addL (by simp)))
    · walk_at "dv ev"
    · walk_at "dv ev"
  apply b_no (p := false || !true)
  · exact et_or (et_testD (ev_op (v_pairsR [q + n, n + q, q - n, n - q, q * n, n * q] (a_var rfl) (by simp) (by simp)) (a_var rfl) (w_neSame (shp_prs _)))) fun _ => et_not (et_BD (v_allR T [q + n, n + q, q - n, n - q, q * n, n * q] (a_var rfl) (by simp) (by simp)))
  · rfl
  have hfl : ∀ d ∈ ([.bl (decide (q ≤ n)), .bl (decide (q < n))] : List Dat), flat d := flat_c flat_b (flat_c flat_b flat_l)
  apply b_no (p := false)
  · exact et_testD (ev_op (ev_cb (ea_cons (a_lst (ea_cons (v_most (.i n) (a_var rfl) (ea_cons (a_var rfl) ea_nil) q35 n35) (ea_cons (v_below (.i n) (a_var rfl) (ea_cons (a_var rfl) ea_nil) q35 n35) ea_nil)) (by simp)) ea_nil) (w_reprL (flat_rpr hfl) (flat_len hfl (by simp)))) (ev_cb (ea_cons (a_lst (ea_cons (v_ismost (two rfl rfl) q35 n35) (ea_cons (EVD.to (a_and (ev_op (a := pr q) (b := pr (n : Rat)) (a_var rfl) (a_var rfl) w_nePr) fun _ => v_ismost (two rfl rfl) q35 n35) (by rw [lt_dec])) ea_nil)) (by simp)) ea_nil) (w_reprL (flat_rpr hfl) (flat_len hfl (by simp)))) w_neStr)
  · rfl
  refine b_ifq (p := !decide (n = 0)) (M := fun cs Δ => cs = [] ∧ ∃ r, Δ = some (.tup [.int a, .int b]) :: some (.int n) :: some (rat K q) :: r) ?_ (fun e => ?_) (fun _ => s_next ⟨rfl, _, rfl⟩ (Le.refl _)) ?_
  · exact et_testD (ev_op (a_var rfl) ev_int (w_in d_neI))
  · have h0 : n ≠ 0 := by simpa using e
    have hv : (Num.i n).v.num ≠ 0 := by show (n : Rat).num ≠ 0; rw [Rat.num_intCast]; exact h0
    have n8 : n.natAbs < 2 ^ 8000 := Nat.lt_trans hn (Nat.pow_lt_pow_right (by decide) (by decide))
    have inv35 : Bd 3500 (Rat.divInt 1 n) := bd_fr h0 (Nat.one_lt_two_pow (by decide)) (Nat.lt_trans hn (Nat.pow_lt_pow_right (by decide) (by decide)))
    apply b_no (p := false)
    · refine et_testD (ev_op (v_pairR (ea_cons (v_overK (.i n) (a_var rfl) (ea_cons (a_var rfl) ea_nil) q35 n35 hv) ea_nil)) (EVD.to (v_times (q := q) (r := Rat.divInt 1 n) (ea_cons (a_var rfl) (ea_cons (v_low (a := 1) (b := n) ?_ h0 n8) ea_nil)) q35 inv35) (by rw [inv_int]; rfl)) (w_neSame shp_pr))
      walk_at "dv ea"
    · rfl
    apply b_noN
    · exact et_not (et_BD (isiRr T (v_over (.i n) (a_var rfl) (ea_cons (a_var rfl) ea_nil) q35 n35 hv)))
    · rfl
    · exact ⟨rfl, _, rfl⟩
  rintro cs' Δ' ⟨rfl, r, rfl⟩
  apply b_retD (d := .bl true)
  · exact EVD.to (d := .bl (true && true)) (a_and (EVD.to (ev_op (ev_op (a_var rfl) (a_var rfl) w_eqI) ev_bl d_isB) rfl) fun _ => EVD.to (ev_op (ev_op (a_var rfl) (a_var rfl) w_eqL) ev_bl d_isB) rfl) rfl
  · rfl
theorem g__law_whole_right {P : Program} {w : World} {K : PySem.W.Frag} {mg : PySem.Str → Option Value} {base : Heap} (T : Tx K mg) : CxG P w K mg base CX0 (He.ga K "_law_whole_right") 7 2 [] ((S__law_whole_right K).sp K) idv := by
  obtain ⟨fd, F⟩ := T.c.def_ 41 (d := d__law_whole_right) rfl
  exact ⟨fd, _, _, f__law_whole_right T F, kb_plain F 2 [] (fun us _ => us) (fun a _ => a) fun _ _ _ _ _ _ us ws h1 h2 => match us, h1, ws, h2 with | [_, _], _, [], _ => rfl⟩
theorem k__law_whole_right {X : Cx} {K : PySem.W.Frag} {mg : PySem.Str → Option Value} {j : Nat} (T : Tx K mg) (hr : RoomG j X.A) (hj : 7 ≤ j := by decide) (hX : AtX X K mg := by exact ⟨rfl, rfl⟩) : CanG X (.ref (He.ga K "_law_whole_right")) [] (rFn 2 0 ((S__law_whole_right K).sp K) idv E0) := by
  obtain ⟨rfl, rfl⟩ := hX
  exact can_cx (g__law_whole_right T) (hr.le hj) pass0
end DV

set_option Elab.async false
set_option autoImplicit false
set_option linter.all false
set_option maxRecDepth 100000
set_option maxHeartbeats 4000000
namespace DV
open PySem PySem.Spec PyProof.Rows L2
/-! ### tactics: evaluate what stands there -/
local macro_rules | `(tactic| walk_at "dv sz") => `(tactic| first | assumption | exact cm_nn (by assumption) (by assumption) (by decide) | exact cm_nd (by assumption) (by assumption) (by decide) | exact cm_dn (by assumption) (by assumption) (by decide) | exact cm_dd (by assumption) (by assumption) (by decide) | decide | omega | (simp; done))
local macro_rules | `(tactic| walk_at "dv rop") => `(tactic| first
  | with_reducible exact d_add | with_reducible exact d_sub | with_reducible exact d_lt | with_reducible exact d_le | with_reducible exact d_gt | with_reducible exact d_ge
  | with_reducible exact d_eqI | with_reducible exact d_neI | with_reducible exact d_eqS | with_reducible exact d_neS | with_reducible exact d_eqB | with_reducible exact d_neB | with_reducible exact d_isB
  | ((with_reducible apply d_mul); walk_at "dv sz") | ((with_reducible apply d_fd); walk_at "dv sz") | ((with_reducible apply d_mod); walk_at "dv sz") | ((with_reducible apply d_pow); walk_at "dv sz")
  | ((with_reducible apply d_ixL); exact rfl) | ((with_reducible apply d_ixT); exact rfl)
  | ((with_reducible apply d_addL); walk_at "dv sz") | ((with_reducible apply d_addS); walk_at "dv sz"))
local macro_rules | `(tactic| walk_at "dv rcp") => `(tactic| first
  | with_reducible exact d_abs | with_reducible exact d_max | with_reducible exact d_min | with_reducible exact d_intI | with_reducible exact d_intB | with_reducible exact d_lenL | with_reducible exact d_lenT | with_reducible exact d_tupL | with_reducible exact d_tupT
  | ((with_reducible apply d_str); walk_at "dv sz") | ((with_reducible apply d_divmod); walk_at "dv sz"))
local macro_rules | `(tactic| walk_at "dv ea") => `(tactic| first
  | with_reducible exact ea_nil
  | ((with_reducible apply ea_cons); (walk_at "dv ev"); (walk_at "dv ea")))
local macro_rules | `(tactic| walk_at "dv et") => `(tactic| first
  | ((with_reducible apply et_not); walk_at "dv et")
  | ((with_reducible apply et_and); (walk_at "dv et"); (intro _; walk_at "dv et"))
  | ((with_reducible apply et_or); (walk_at "dv et"); (intro _; walk_at "dv et"))
  | ((with_reducible apply et_testD); walk_at "dv ev")
  | ((with_reducible apply et_BD); walk_at "dv ev"))
local macro_rules | `(tactic| walk_at "dv call") => `(tactic| fail "no call")
local macro_rules | `(tactic| walk_at "dv ev") => `(tactic| first
  | with_reducible exact ev_int | with_reducible exact ev_str | with_reducible exact ev_bl | with_reducible exact ev_non | with_reducible exact ev_obj
  | ((with_reducible apply a_var); exact rfl)
  | ((with_reducible apply ev_op); (walk_at "dv ev"); (walk_at "dv ev"); (walk_at "dv rop"))
  | ((with_reducible apply ev_un); (walk_at "dv ev"); with_reducible exact d_neg)
  | ((with_reducible apply a_tup); (walk_at "dv ea"); (walk_at "dv sz"))
  | ((with_reducible apply a_lst); (walk_at "dv ea"); (walk_at "dv sz"))
  | ((with_reducible apply v_ftop (by assumption)); walk_at "dv ev")
  | ((with_reducible apply v_fbot (by assumption)); walk_at "dv ev")
  | ((with_reducible apply ev_cb); (walk_at "dv ea"); (walk_at "dv rcp"))
  | ((with_reducible apply a_and); (walk_at "dv ev"); (intro _; walk_at "dv ev"))
  | ((with_reducible apply a_or); (walk_at "dv ev"); (intro _; walk_at "dv ev"))
  | ((with_reducible apply ev_notV); walk_at "dv ev")
  | walk_at "dv call")
theorem foldl_add (l : List Rat) : ∀ q : Rat, l.foldl (· + ·) q = q + sumR l := by
  unfold sumR
  induction l with
  | nil => intro q; show q = q + 0; rw [Rat.add_zero]
  | cons x l ih =>
    intro q
    rw [List.foldl_cons, List.foldl_cons, ih, ih (0 + x), Rat.zero_add, Rat.add_assoc]
theorem sumR_cons (x : Rat) (l : List Rat) : sumR (x :: l) = x + sumR l := by
  show (x :: l).foldl (· + ·) 0 = _
  rw [List.foldl_cons, foldl_add, Rat.zero_add]
theorem sumR_rev : ∀ l : List Rat, sumR l.reverse = sumR l
  | [] => rfl
  | x :: l => by rw [List.reverse_cons, sumR_more, sumR_rev l, sumR_cons, Rat.add_comm]
theorem pr_0 : pr (0 : Rat) = .tup [.int 0, .int 1] := rfl
theorem pr_3 : pr (3 : Rat) = .tup [.int 3, .int 1] := rfl
/-- a drawn pair as data -/
def pd (p : Int × Int) : Dat := .tup [.int p.1, .int p.2]
def pq (p : Int × Int) : Rat := Rat.divInt p.1 p.2
theorem pd_inj {p p' : Int × Int} (h : pd p = pd p') : p = p' := by
  unfold pd at h
  simp only [Dat.tup.injEq, List.cons.injEq, Dat.int.injEq, and_true] at h
  exact Prod.ext h.1 h.2
def S__law_sums_right (K : PySem.W.Frag) : FS (Addr × List (Int × Int)) where
  arg x := [.obj (.ref x.1), .lst (x.2.map pd)]
  ok W x := W = Pot x.1 ∧ 3 ≤ x.2.length ∧ x.2.length ≤ 10 ∧ ∀ p ∈ x.2, Dr p.1 p.2
  res _ d := d = .bl true
theorem num_map {K : PySem.W.Frag} (ps : List (Int × Int)) : ps.map (fun p => rat K (pq p)) = (ps.map fun p => Num.r (pq p)).map (Num.d K) := by
  rw [List.map_map]
  rfl
/-- the numbers that are summed -/
def nums (ps : List (Int × Int)) (z : Int) : List Num := ps.map (fun p => Num.r (pq p)) ++ [Num.i z, Num.r 0, Num.i 5]
theorem nums_bd {ps : List (Int × Int)} {z : Int} (h : ∀ p ∈ ps, Dr p.1 p.2) (hz : z.natAbs < 100) : ∀ n ∈ nums ps z, Bd 100 n.v := by
  intro n hn
  rcases List.mem_append.mp hn with hn | hn
  · obtain ⟨p, hp, rfl⟩ := List.mem_map.mp hn
    exact bd_le (dr_bd (h p hp)) (by decide)
  · simp only [List.mem_cons, List.not_mem_nil, or_false] at hn
    rcases hn with rfl | rfl | rfl
    · exact bd_int (Nat.lt_trans hz (by decide)) (by decide)
    · exact bd_le bd_zero (by decide)
    · exact bd_int (n := 5) (by decide) (by decide)
theorem v_plusN {c : Ct} {cs : Cells} {Δ : Sts} {tr : TA} {q r : Rat} (h : EVL c cs Δ tr [pr q, pr r]) (hq : Bd 3500 q) (hr : Bd 3500 r) : EVD c cs Δ (tG (rFn 2 0 ((S__law_plus c.K).sp c.K) idv E0) tr tNil) (pr (q + r)) := v_plus h hq hr
theorem sign_ne {q : Rat} (h : decide (((if decide ((0 : Int) < q.num) then (1 : Int) else 0) - (if decide (q.num < 0) then 1 else 0)) = 0) = false) : q.num ≠ 0 := by
  intro e
  rw [e] at h
  exact nomatch h
theorem mul_over {q r : Rat} (h : r.num ≠ 0) : q * r / r = q := by
  have h0 : r ≠ 0 := fun e => h (by rw [e]; rfl)
  grind
theorem f__law_sums_right {P : Program} {w : World} {K : PySem.W.Frag} {mg : PySem.Str → Option Value} {base : Heap} (T : Tx K mg) {fd : FuncData} (F : FunD K d__law_sums_right.name d__law_sums_right.qual d__law_sums_right.params d__law_sums_right.body d__law_sums_right.scope (d__law_sums_right.dvs K) (d__law_sums_right.kws K) (d__law_sums_right.at_ K) fd) : FnG P w K mg base CX0 9 (d__law_sums_right.at_ K) fd ["pot", "drawn"] ((S__law_sums_right K).sp K) := by
  have nd := sc__law_sums_right.nd
  refine fn_g F sc__law_sums_right (FS.len fun x => by first | rfl | (cases x <;> rfl) | (obtain ⟨_, x⟩ := x; cases x <;> rfl)) fun cdv A fr s H vs Q E hr h => ⟨_, PSs.nox (pss_cons (ps_set (i := 2) nd rfl (Or.inl rfl) (pe_op (u_add (j := 8) T hr) (pe_lc (own := [("one", 9)]) (g := gName 9) (tt := tYes) rfl nd (x_any T (pv 1)) (blkOk_by (N := N__law_sums_right) (sc := defScope s__law_sums_right) (by decide +kernel)) (fun _ _ _ _ _ => pg_name (i := 9) nd rfl (Or.inl rfl)) (fun _ _ _ _ _ => pts_nil) (fun _ _ _ _ _ => (pe_g (ks := []) rfl (T.g_ "Ratio") (T.k_ "Ratio") (mk_Ratio_2 (j := 8) T hr) (pa_cons (pe_ix (x_ix T) (pv 9) pe_int fun _ _ => rfl) (pa_cons (pe_ix (x_ix T) (pv 9) pe_int fun _ _ => rfl) pa_nil)) pk_nil))) (pe_lst (pa_cons (pe_op (u_sub (j := 8) T hr) (pe_g (ks := []) rfl (T.g_ "_law_draw") (T.k_ "_law_draw") (k__law_draw (j := 8) T hr) (pa_cons (pv 0) (pa_cons pe_int pa_nil)) pk_nil) pe_int) (pa_cons (pe_g (ks := []) rfl (T.g_ "Ratio") (T.k_ "Ratio") (mk_Ratio_1 (j := 8) T hr) (pa_cons pe_int pa_nil) pk_nil) (pa_cons pe_int pa_nil))))))
      (pss_cons (ps_set (i := 3) nd rfl (Or.inl rfl) (pe_tup (pa_cons pe_int (pa_cons pe_int pa_nil))))
      (pss_cons (ps_for PassesOwn.never rfl (x_any T (pv 2)) (pg_name (i := 4) nd rfl (Or.inl rfl)) (pss_one (ps_set (i := 3) nd rfl (Or.inl rfl) (pe_g (ks := []) rfl (T.g_ "_law_plus") (T.k_ "_law_plus") (k__law_plus (j := 8) T hr) (pa_cons (pv 3) (pa_cons (pe_g (ks := []) rfl (T.g_ "_law_pair") (T.k_ "_law_pair") (k__law_pair (j := 8) T hr) (pa_cons (pv 4) pa_nil) pk_nil) pa_nil)) pk_nil))))
      (pss_cons (ps_set (i := 5) nd rfl (Or.inl rfl) (pe_lst (pa_cons (pe_gc (ks := []) (pe_glob (v := .ref _) rfl (T.g_ "Ratio") rfl) T.Ratio_rd T.Ratio_total_cm (k_Ratio_total (j := 8) T hr) (pa_cons (pv 2) pa_nil) pk_nil) (pa_cons (pe_gc0 (ks := ["numbers"]) (pe_glob (v := .ref _) rfl (T.g_ "Ratio") rfl) T.Ratio_rd T.Ratio_total_cm (k_Ratio_total_numbers (j := 8) T hr) (pk_cons (pe_callTy (x_tup T) rfl (T.f_ "tuple") PyProof.Rows.boot_tuple (pa_cons (pe_revL (pv 2)) pa_nil)) pk_nil)) (pa_cons (pe_gc (ks := []) (pe_glob (v := .ref _) rfl (T.g_ "Ratio") rfl) T.Ratio_rd T.Ratio_total_cm (k_Ratio_total (j := 8) T hr) (pa_cons (pe_lst pa_nil) pa_nil) pk_nil) (pa_cons (pe_gc (ks := []) (pe_glob (v := .ref _) rfl (T.g_ "Ratio") rfl) T.Ratio_rd T.Ratio_total_cm (k_Ratio_total (j := 8) T hr) (pa_cons (pe_tup (pa_cons pe_int (pa_cons pe_int pa_nil))) pa_nil) pk_nil) pa_nil))))))
      (pss_cons (ps_if (pt_cmpR (u_ne (j := 8) T hr) (pe_lc (own := [("value", 10)]) (g := gName 10) (tt := tYes) rfl nd (x_any T (pv 5)) (blkOk_by (N := N__law_sums_right) (sc := defScope s__law_sums_right) (by decide +kernel)) (fun _ _ _ _ _ => pg_name (i := 10) nd rfl (Or.inl rfl)) (fun _ _ _ _ _ => pts_nil) (fun _ _ _ _ _ => (pe_g (ks := []) rfl (T.g_ "_law_pair") (T.k_ "_law_pair") (k__law_pair (j := 8) T hr) (pa_cons (pv 10) pa_nil) pk_nil))) (pe_lst (pa_cons (pv 3) (pa_cons (pv 3) (pa_cons (pe_tup (pa_cons pe_int (pa_cons pe_int pa_nil))) (pa_cons (pe_tup (pa_cons pe_int (pa_cons pe_int pa_nil))) pa_nil))))) (nomark _)) (pss_one (ps_ret pe_bl)) pss_nil)
      (pss_cons (ps_if (pt_not (pt_val (pe_callB (x_all T rfl) rfl (T.f_ "all") PyProof.Rows.boot_all (pa_cons (pe_lc (own := [("value", 10)]) (g := gName 10) (tt := tYes) rfl nd (x_any T (pv 5)) (blkOk_by (N := N__law_sums_right) (sc := defScope s__law_sums_right) (by decide +kernel)) (fun _ _ _ _ _ => pg_name (i := 10) nd rfl (Or.inl rfl)) (fun _ _ _ _ _ => pts_nil) (fun _ _ _ _ _ => (pe_callB (x_isi T) rfl (T.f_ "isinstance") PyProof.Rows.boot_isinstance (pa_cons (pv 10) (pa_cons (pe_glob (v := .ref _) rfl (T.g_ "Ratio") rfl) pa_nil))))) pa_nil)))) (pss_one (ps_ret pe_bl)) pss_nil)
      (pss_cons (ps_par3 (i := 6) (j := 7) (l := 8) rfl nd rfl rfl rfl (by decide) (by decide) (by decide) rfl rfl rfl (pa_cons (pe_ix (x_ix T) (pv 2) pe_int fun _ _ => rfl) (pa_cons (pe_ix (x_ix T) (pv 2) pe_int fun _ _ => rfl) (pa_cons (pe_ix (x_ix T) (pv 2) pe_int fun _ _ => rfl) pa_nil))) rfl)
      (pss_cons (ps_if (PW.pt (pw_or (pt_cmpR (u_ne (j := 8) T hr) (pe_op (u_mul (j := 8) T hr) (pv 6) (pe_op (u_add (j := 8) T hr) (pv 7) (pv 8))) (pe_op (u_add (j := 8) T hr) (pe_op (u_mul (j := 8) T hr) (pv 6) (pv 7)) (pe_op (u_mul (j := 8) T hr) (pv 6) (pv 8))) (nomark _)) (pw_or (pt_cmpR (u_ne (j := 8) T hr) (pe_op (u_add (j := 8) T hr) (pe_op (u_add (j := 8) T hr) (pv 6) (pv 7)) (pv 8)) (pe_op (u_add (j := 8) T hr) (pv 6) (pe_op (u_add (j := 8) T hr) (pv 7) (pv 8))) (nomark _)) (pw_or1 (pt_cmpR (u_ne (j := 8) T hr) (pe_op (u_mul (j := 8) T hr) (pe_op (u_mul (j := 8) T hr) (pv 6) (pv 7)) (pv 8)) (pe_op (u_mul (j := 8) T hr) (pv 6) (pe_op (u_mul (j := 8) T hr) (pv 7) (pv 8))) (nomark _)))))) (pss_one (ps_ret pe_bl)) pss_nil)
      (pss_one (ps_ret (pe_and (pe_cmpR (u_eq (j := 8) T hr) (pe_op (u_sub (j := 8) T hr) (pv 6) (pv 6)) (pe_g (ks := []) rfl (T.g_ "Ratio") (T.k_ "Ratio") (mk_Ratio_1 (j := 8) T hr) (pa_cons pe_int pa_nil) pk_nil) (nomark _)) (pe_and (pe_cmpR (u_eq (j := 8) T hr) (pe_op (u_sub (j := 8) T hr) (pe_op (u_add (j := 8) T hr) (pv 6) (pv 7)) (pv 7)) (pv 6) (nomark _)) (pe_one (pe_or (pe_cmpR (u_eq (j := 8) T hr) (p_Ratio_sign (j := 8) T hr (pv 7)) pe_int (nomark _)) (pe_one (pe_cmpR (u_eq (j := 8) T hr) (pe_gm (ks := []) (pe_op (u_mul (j := 8) T hr) (pv 6) (pv 7)) T.Ratio_cl (T.m_Ratio "over") (k_Ratio_over (j := 8) T hr) (pa_cons (pv 7) pa_nil) pk_nil) (pv 6) (nomark _))))))))))))))))), FS.body h fun x W ok => ?_⟩
  try dsimp only [cxOf, Cx.nox, Cx.blk]
  obtain ⟨l, ps⟩ := x
  obtain ⟨rfl, h3, h10, hd⟩ := ok
  have h3 : 3 ≤ ps.length := h3
  have h10 : ps.length ≤ 10 := h10
  refine at_ [some (.obj (.ref l)), some (.lst (ps.map pd)), none, none, none, none, none, none, none, none, none] rfl ?_
  refine q_asgP (P := fun d => ∃ z : Int, d = .lst ((nums ps z).map (Num.d K)) ∧ z.natAbs < 100) ?_ ?_
  · refine evp_op (Pa := fun d => d = .lst ((ps.map fun p => Num.r (pq p)).map (Num.d K))) (Pb := fun _ d => ∃ z : Int, d = .lst ([Num.i z, Num.r 0, Num.i 5].map (Num.d K)) ∧ z.natAbs < 100) ?_ (fun _ _ => ?_) ?_
    · rw [← num_map]
      refine en_mapD (i := 9) ps pd (fun p => rat K (pq p)) (f_anyL (a_var rfl)) (by omega) (by simp) (fun p _ p' _ e => by rw [pd_inj e]) fun p hp => ?_
      have dr := hd p hp
      refine v_mk2 (a := p.1) (b := p.2) ?_ dr.1 (dr_8000 dr)
      exact ea_cons (ev_op (a := .tup [.int p.1, .int p.2]) (a_var rfl) ev_int (d_ixT rfl)) (ea_cons (ev_op (a := .tup [.int p.1, .int p.2]) (a_var rfl) ev_int (d_ixT rfl)) ea_nil)
    · refine (EVN.good (PA := fun ds => ∃ z : Int, ds = [Num.i z, Num.r 0, Num.i 5].map (Num.d K) ∧ z.natAbs < 100) (en_lst ?_ ?_)).imp fun d ⟨ds, e, z, e2, hz⟩ => ⟨z, by rw [e, e2], hz⟩
      · refine (eap_cons (Pa := fun d => ∃ z : Int, d = .int z ∧ z.natAbs < 100) (Pr := fun _ l => l = [rat K 0, .int 5]) ?_ fun _ _ => ea_cons (v_mk1 (a := 0) (ea_cons ev_int ea_nil)) (ea_cons ev_int ea_nil)).imp fun ds ⟨d, r, e, ⟨z, e1, hz⟩, e2⟩ => ⟨z, by rw [e, e1, e2]; rfl, hz⟩
        refine evp_op (Pb := fun _ d => d = .int 4) (v_draw (z := 9) (ea_cons (a_var rfl) (ea_cons ev_int ea_nil)) (by decide) (by decide)) (fun _ _ => ev_int) ?_
        rintro _ _ ⟨y, rfl, h1, h2⟩ rfl
        exact fun G H x y I R ra rb Q q => w_is d_sub G H x y I R ra rb Q fun d v G2 H2 hd => q d v G2 H2 ⟨_, hd, by omega⟩
      · rintro ds ⟨z, rfl, _⟩
        simp
    · rintro _ _ rfl ⟨z, rfl, hz⟩
      exact fun G H x y I R ra rb Q q => w_ii (d_addL (by simp; omega)) G H x y I R ra rb Q fun d v G2 H2 hd => q d v G2 H2 ⟨z, by rw [hd, ← List.map_append]; rfl, hz⟩
  rintro _ ⟨z, rfl, hz⟩
  have hb := nums_bd hd hz
  have hlen : (nums ps z).length = ps.length + 3 := by simp [nums]
  have hbv : ∀ q ∈ (nums ps z).map Num.v, Bd 100 q := fun q hq => by
    obtain ⟨n, hn, rfl⟩ := List.mem_map.mp hq
    exact hb n hn
  have h20 : (nums ps z).length ≤ 20 := by omega
  obtain ⟨p0, p1, p2, rest, rfl⟩ : ∃ p0 p1 p2 rest, ps = p0 :: p1 :: p2 :: rest := by
    match ps, h3 with
    | p0 :: p1 :: p2 :: rest, _ => exact ⟨p0, p1, p2, rest, rfl⟩
  have d0 := dr_bd (hd p0 (by simp))
  have d1 := dr_bd (hd p1 (by simp))
  have d2 := dr_bd (hd p2 (by simp))
  apply b_asg (d := pr (sumR ((((nums (p0 :: p1 :: p2 :: rest) z).map Num.v)).take 0)))
  · refine EVD.to (d := .tup [.int 0, .int 1]) ?_ pr_0.symm
    walk_at "dv ev"
  have hnum : (nums (p0 :: p1 :: p2 :: rest) z).map (Num.d K) = rat K (pq p0) :: rat K (pq p1) :: rat K (pq p2) :: ((rest.map fun p => rat K (pq p)) ++ [.int z, rat K 0, .int 5]) := by
    simp [nums, Num.d]
  generalize hns : nums (p0 :: p1 :: p2 :: rest) z = ns at hb hlen hbv h20 hnum
  refine q_forD (ds := ns.map (Num.d K)) (fun i cs Δ => cs = [] ∧ ∃ o, Δ = [some (.obj (.ref l)), some (.lst ((p0 :: p1 :: p2 :: rest).map pd)), some (.lst (ns.map (Num.d K))), some (pr (sumR ((ns.map Num.v).take i))), o, none, none, none, none, none, none]) (f_anyL (a_var rfl)) ⟨rfl, none, rfl⟩ ?_ ?_
  · rintro i d cs' Δ' hd' ⟨rfl, o, rfl⟩
    rw [List.getElem?_map] at hd'
    obtain ⟨n, hn, rfl⟩ := Option.map_eq_some_iff.mp hd'
    have hi : i < ns.length := (List.getElem?_eq_some_iff.mp hn).1
    have hv : (ns.map Num.v)[i]? = some n.v := by rw [List.getElem?_map, hn]; rfl
    apply s_asg (P := fun d => d = pr (sumR ((ns.map Num.v).take i) + n.v))
    · exact v_plus (ea_cons (a_var rfl) (ea_cons (v_pair n (ea_cons (a_var rfl) ea_nil)) ea_nil)) (bd_le (bd_sum hbv i (by rw [List.length_map]; omega)) (by omega)) (bd_le (hb n (List.mem_of_getElem? hn)) (by decide))
    · rintro d rfl
      refine ⟨rfl, some (n.d K), ?_⟩
      rw [take_more hv, sumR_more]
      rfl
  rintro cs' Δ' ⟨rfl, o, rfl⟩
  have hfull : (ns.map Num.v).take (ns.map (Num.d K)).length = ns.map Num.v := by rw [List.length_map, ← List.length_map (f := Num.v), List.take_length]
  rw [hfull]
  have hrev : sumR (ns.reverse.map Num.v) = sumR (ns.map Num.v) := by rw [List.map_reverse, sumR_rev]
  have h12 : sumR ([Num.i 1, Num.i 2].map Num.v) = 3 := by decide +kernel
  have b12 : ∀ n ∈ [Num.i 1, Num.i 2], Bd 100 n.v := by
    intro n hn
    simp only [List.mem_cons, List.not_mem_nil, or_false] at hn
    rcases hn with rfl | rfl
    · exact bd_int (n := 1) (by decide) (by decide)
    · exact bd_int (n := 2) (by decide) (by decide)
  apply b_asg (d := .lst ([sumR (ns.map Num.v), sumR (ns.map Num.v), 0, 3].map (rat K)))
  · refine a_lst (ea_cons (v_total true ns (ea_cons (a_var rfl) ea_nil) h20 hb) (ea_cons (EVD.to (v_totalK false ns.reverse (ea_cons (EVD.to (ev_cb (ea_cons (d_revL (a_var rfl)) ea_nil) d_tupL) (by rw [List.map_reverse]; rfl)) ea_nil) (by rw [List.length_reverse]; exact h20) fun n hn => hb n (List.mem_reverse.mp hn)) (by rw [hrev])) (ea_cons (v_total true [] (ea_cons (a_lst ea_nil (by simp)) ea_nil) (by simp) (fun _ h => nomatch h)) (ea_cons (EVD.to (v_total false [.i 1, .i 2] (ea_cons (a_tup (ea_cons ev_int (ea_cons ev_int ea_nil)) (by simp)) ea_nil) (by simp) b12) (by rw [h12])) ea_nil)))) (by simp)
  apply b_no (p := false)
  · refine et_testD (ev_op (v_pairsR [sumR (ns.map Num.v), sumR (ns.map Num.v), 0, 3] (a_var rfl) (by simp) (by simp)) (EVD.to (d := .lst [pr (sumR (ns.map Num.v)), pr (sumR (ns.map Num.v)), .tup [.int 0, .int 1], .tup [.int 3, .int 1]]) ?_ (by rw [← pr_0, ← pr_3]; rfl)) (w_neSame (shp_prs _)))
    walk_at "dv ev"
  · rfl
  apply b_no
  · exact et_not (et_BD (v_allR T [sumR (ns.map Num.v), sumR (ns.map Num.v), 0, 3] (a_var rfl) (by simp) (by simp)))
  · rfl
  have at0 : L2.atI (ns.map (Num.d K)) 0 = some (rat K (pq p0)) := by
    rw [hnum]
    exact L2.atI_nat (j := 0) rfl
  have at1 : L2.atI (ns.map (Num.d K)) 1 = some (rat K (pq p1)) := by
    rw [hnum]
    exact L2.atI_nat (j := 1) rfl
  have at2 : L2.atI (ns.map (Num.d K)) 2 = some (rat K (pq p2)) := by
    rw [hnum]
    exact L2.atI_nat (j := 2) rfl
  have e0 : Bd 60 (pq p0) := d0
  have e1 : Bd 60 (pq p1) := d1
  have e2 : Bd 60 (pq p2) := d2
  apply b_par3 (a := rat K (pq p0)) (b := rat K (pq p1)) (e := rat K (pq p2))
  · exact ea_cons (ev_op (a_var rfl) ev_int (d_ixL at0)) (ea_cons (ev_op (a_var rfl) ev_int (d_ixL at1)) (ea_cons (ev_op (a_var rfl) ev_int (d_ixL at2)) ea_nil))
  generalize pq p0 = a at e0
  generalize pq p1 = b at e1
  generalize pq p2 = cc at e2
  have a35 := bd_le e0 (show 60 ≤ 3500 by decide)
  have b35 := bd_le e1 (show 60 ≤ 3500 by decide)
  have c35 := bd_le e2 (show 60 ≤ 3500 by decide)
  have bc := bd_le (bd_add e1 e2) (show 121 ≤ 3500 by decide)
  have ab := bd_le (bd_mul e0 e1) (show 120 ≤ 3500 by decide)
  have ac := bd_le (bd_mul e0 e2) (show 120 ≤ 3500 by decide)
  have bmc := bd_le (bd_mul e1 e2) (show 120 ≤ 3500 by decide)
  have apb := bd_le (bd_add e0 e1) (show 121 ≤ 3500 by decide)
  refine at_ [some (.obj (.ref l)), some (.lst ((p0 :: p1 :: p2 :: rest).map pd)), some (.lst (ns.map (Num.d K))), some (pr (sumR (ns.map Num.v))), o, some (.lst ([sumR (ns.map Num.v), sumR (ns.map Num.v), 0, 3].map (rat K))), some (rat K a), some (rat K b), some (rat K cc), none, none] rfl ?_
  apply b_no (p := (!decide (a * (b + cc) = a * b + a * cc)) || ((!decide (a + b + cc = a + (b + cc))) || (!decide (a * b * cc = a * (b * cc)))))
  · refine et_or (et_testD (ev_op (ev_op (a_var rfl) (ev_op (a_var rfl) (a_var rfl) (w_addR b35 c35)) (w_mulR a35 bc)) (ev_op (ev_op (a_var rfl) (a_var rfl) (w_mulR a35 b35)) (ev_op (a_var rfl) (a_var rfl) (w_mulR a35 c35)) (w_addR ab ac)) w_neR)) fun _ => et_or (et_testD (ev_op (ev_op (ev_op (a_var rfl) (a_var rfl) (w_addR a35 b35)) (a_var rfl) (w_addR apb c35)) (ev_op (a_var rfl) (ev_op (a_var rfl) (a_var rfl) (w_addR b35 c35)) (w_addR a35 bc)) w_neR)) fun _ => et_testD (ev_op (ev_op (ev_op (a_var rfl) (a_var rfl) (w_mulR a35 b35)) (a_var rfl) (w_mulR ab c35)) (ev_op (a_var rfl) (ev_op (a_var rfl) (a_var rfl) (w_mulR b35 c35)) (w_mulR a35 bmc)) w_neR)
  · rw [Rat.mul_add, Rat.add_assoc, Rat.mul_assoc]
    simp
  apply b_retD (d := .bl true)
  · have t1 : a - a = (0 : Int) := by grind
    have t2 : a + b - b = a := by grind
    refine EVD.to (a_and (ev_op (ev_op (a_var rfl) (a_var rfl) (w_subR a35 a35)) (v_mk1 (a := 0) (ea_cons ev_int ea_nil)) w_eqR) fun _ => a_and (ev_op (ev_op (ev_op (a_var rfl) (a_var rfl) (w_addR a35 b35)) (a_var rfl) (w_subR apb b35)) (a_var rfl) w_eqR) fun _ => a_or (q := true) (ev_op (a := .int _) (v_prop (f := fun q => .int ((if decide ((0 : Int) < q.num) then 1 else 0) - (if decide (q.num < 0) then 1 else 0))) (q := b) (a_var rfl)) ev_int (w_ie d_eqI)) fun hs => ?_) ?_
    · have hn := sign_ne hs
      exact EVD.to (ev_op (v_over (.r b) (ev_op (a_var rfl) (a_var rfl) (w_mulR a35 b35)) (ea_cons (a_var rfl) ea_nil) ab b35 hn) (a_var rfl) w_eqR) (by rw [show a * b / (Num.r b).v = a from mul_over hn, decide_eq_true rfl])
    · rw [t1, t2]
      simp
  · rfl
theorem g__law_sums_right {P : Program} {w : World} {K : PySem.W.Frag} {mg : PySem.Str → Option Value} {base : Heap} (T : Tx K mg) : CxG P w K mg base CX0 (He.ga K "_law_sums_right") 9 2 [] ((S__law_sums_right K).sp K) idv := by
  obtain ⟨fd, F⟩ := T.c.def_ 42 (d := d__law_sums_right) rfl
  exact ⟨fd, _, _, f__law_sums_right T F, kb_plain F 2 [] (fun us _ => us) (fun a _ => a) fun _ _ _ _ _ _ us ws h1 h2 => match us, h1, ws, h2 with | [_, _], _, [], _ => rfl⟩
theorem k__law_sums_right {X : Cx} {K : PySem.W.Frag} {mg : PySem.Str → Option Value} {j : Nat} (T : Tx K mg) (hr : RoomG j X.A) (hj : 9 ≤ j := by decide) (hX : AtX X K mg := by exact ⟨rfl, rfl⟩) : CanG X (.ref (He.ga K "_law_sums_right")) [] (rFn 2 0 ((S__law_sums_right K).sp K) idv E0) := by
  obtain ⟨rfl, rfl⟩ := hX
  exact can_cx (g__law_sums_right T) (hr.le hj) pass0
end DV

set_option Elab.async false
set_option autoImplicit false
set_option linter.all false
set_option maxRecDepth 100000
set_option maxHeartbeats 4000000
namespace DV
open PySem PySem.Spec PyProof.Rows L2
/-! ### tactics: evaluate what stands there -/
local macro_rules | `(tactic| walk_at "dv sz") => `(tactic| first | assumption | exact cm_nn (by assumption) (by assumption) (by decide) | exact cm_nd (by assumption) (by assumption) (by decide) | exact cm_dn (by assumption) (by assumption) (by decide) | exact cm_dd (by assumption) (by assumption) (by decide) | decide | omega | (simp; done))
local macro_rules | `(tactic| walk_at "dv rop") => `(tactic| first
  | with_reducible exact d_add | with_reducible exact d_sub | with_reducible exact d_lt | with_reducible exact d_le | with_reducible exact d_gt | with_reducible exact d_ge
  | with_reducible exact d_eqI | with_reducible exact d_neI | with_reducible exact d_eqS | with_reducible exact d_neS | with_reducible exact d_eqB | with_reducible exact d_neB | with_reducible exact d_isB
  | ((with_reducible apply d_mul); walk_at "dv sz") | ((with_reducible apply d_fd); walk_at "dv sz") | ((with_reducible apply d_mod); walk_at "dv sz") | ((with_reducible apply d_pow); walk_at "dv sz")
  | ((with_reducible apply d_ixL); exact rfl) | ((with_reducible apply d_ixT); exact rfl)
  | ((with_reducible apply d_addL); walk_at "dv sz") | ((with_reducible apply d_addS); walk_at "dv sz"))
local macro_rules | `(tactic| walk_at "dv rcp") => `(tactic| first
  | with_reducible exact d_abs | with_reducible exact d_max | with_reducible exact d_min | with_reducible exact d_intI | with_reducible exact d_intB | with_reducible exact d_lenL | with_reducible exact d_lenT | with_reducible exact d_tupL | with_reducible exact d_tupT
  | ((with_reducible apply d_str); walk_at "dv sz") | ((with_reducible apply d_divmod); walk_at "dv sz"))
local macro_rules | `(tactic| walk_at "dv ea") => `(tactic| first
  | with_reducible exact ea_nil
  | ((with_reducible apply ea_cons); (walk_at "dv ev"); (walk_at "dv ea")))
local macro_rules | `(tactic| walk_at "dv et") => `(tactic| first
  | ((with_reducible apply et_not); walk_at "dv et")
  | ((with_reducible apply et_and); (walk_at "dv et"); (intro _; walk_at "dv et"))
  | ((with_reducible apply et_or); (walk_at "dv et"); (intro _; walk_at "dv et"))
  | ((with_reducible apply et_testD); walk_at "dv ev")
  | ((with_reducible apply et_BD); walk_at "dv ev"))
local macro_rules | `(tactic| walk_at "dv call") => `(tactic| fail "no call")
local macro_rules | `(tactic| walk_at "dv ev") => `(tactic| first
  | with_reducible exact ev_int | with_reducible exact ev_str | with_reducible exact ev_bl | with_reducible exact ev_non | with_reducible exact ev_obj
  | ((with_reducible apply a_var); exact rfl)
  | ((with_reducible apply ev_op); (walk_at "dv ev"); (walk_at "dv ev"); (walk_at "dv rop"))
  | ((with_reducible apply ev_un); (walk_at "dv ev"); with_reducible exact d_neg)
  | ((with_reducible apply a_tup); (walk_at "dv ea"); (walk_at "dv sz"))
  | ((with_reducible apply a_lst); (walk_at "dv ea"); (walk_at "dv sz"))
  | ((with_reducible apply v_ftop (by assumption)); walk_at "dv ev")
  | ((with_reducible apply v_fbot (by assumption)); walk_at "dv ev")
  | ((with_reducible apply ev_cb); (walk_at "dv ea"); (walk_at "dv rcp"))
  | ((with_reducible apply a_and); (walk_at "dv ev"); (intro _; walk_at "dv ev"))
  | ((with_reducible apply a_or); (walk_at "dv ev"); (intro _; walk_at "dv ev"))
  | ((with_reducible apply ev_notV); walk_at "dv ev")
  | walk_at "dv call")
/-! ### _law_pot: a new list, not yet anyone's -/
def sp_pot (K : PySem.W.Frag) : Sp := fun vs H Q _ => ∃ (W : Wld) (G : Hp) (ns : List Int) (k : Nat), Inn K W [] G H ∧ Reps K G [.lst (ns.map Dat.int), .int (k : Int)] vs ∧ k ≤ 2 ∧
  ∀ (l : Addr) (a b : Int) (G2 H2 : Hp), H l = none → G2 l = none → ¬ W.own l → Step W G H G2 H2 → H2 l = some (.lst [.int a, .int b]) → potB b → Q (.ref l) H2
theorem f__law_pot {P : Program} {w : World} {K : PySem.W.Frag} {mg : PySem.Str → Option Value} {base : Heap} (T : Tx K mg) {fd : FuncData} (F : FunD K d__law_pot.name d__law_pot.qual d__law_pot.params d__law_pot.body d__law_pot.scope (d__law_pot.dvs K) (d__law_pot.kws K) (d__law_pot.at_ K) fd) : FnG P w K mg base CX0 1 (d__law_pot.at_ K) fd ["script", "k"] (sp_pot K) := by
  have nd := sc__law_pot.nd
  refine fn_g F sc__law_pot (fun vs H Q E h => ?_) fun cdv A fr s H vs Q E hr h => ⟨_, PSs.nox (pss_cons (ps_set (i := 2) nd rfl (Or.inl rfl) (pe_ifExp (pt_cmpR o_lt (pv 1) (pe_callB (x_len T) rfl (T.f_ "len") PySem.boot_len (pa_cons (pv 0) pa_nil)) (nomark _)) (pe_callB k_abs rfl (T.f_ "abs") PyProof.Rows.boot_abs (pa_cons (pe_ix (x_ix T) (pv 0) (pv 1) fun _ _ => rfl) pa_nil)) (pe_op (x_add T) (pe_op o_mul pe_int (pv 1)) pe_int)))
      (pss_one (ps_ret (pe_lst (pa_cons (pe_callB (k_max rfl) rfl (T.f_ "max") PyProof.Rows.boot_max (pa_cons pe_int (pa_cons (pe_op o_sub (pv 2) (pe_op o_pow pe_int pe_int)) pa_nil))) (pa_cons (pe_op (x_add T) (pe_op o_mod (pe_callTy k_int rfl (T.f_ "int") PyProof.Rows.boot_int (pa_cons (pe_op (x_add T) (pe_op (x_add T) (pe_op o_mul (pe_op o_mod (pe_callTy k_int rfl (T.f_ "int") PyProof.Rows.boot_int (pa_cons (pv 2) pa_nil)) pe_int) pe_int) (pe_op o_mul pe_int (pv 1))) pe_int) pa_nil)) pe_int) pe_int) pa_nil)))))), ?_⟩
  · obtain ⟨W, G, ns, k, _, r, _⟩ := h
    exact r.len
  try dsimp only [cxOf, Cx.nox, Cx.blk]
  obtain ⟨W, G, ns, k, I, r, hk, q⟩ := h
  have sg : Sig K G (L2.start N__law_pot vs) [some (.lst (ns.map Dat.int)), some (.int (k : Int)), none] := sig_start (N := N__law_pot) r
  have R : Raises ⟨K, W, E, fun _ => False⟩ G H := fun x _ _ _ _ hx => hx.elim
  have c1 : CMulW 167 (k : Int) := cm_of (a := 60) (b := 60) (by decide) (Nat.lt_of_le_of_lt (by omega : (k : Int).natAbs ≤ 2) (by decide)) (by decide)
  have c2 : CMulW 6007 (k : Int) := cm_of (a := 60) (b := 60) (by decide) (Nat.lt_of_le_of_lt (by omega : (k : Int).natAbs ≤ 2) (by decide)) (by decide)
  have h1 : EVP ⟨K, W, E, fun _ => False⟩ [] [some (.lst (ns.map Dat.int)), some (.int (k : Int)), none] (tIf (tTest (tOp bLt (tVar 1) (tCB (bLen K) (tCons (tVar 0) tNil)))) (tCB bAbs (tCons (tOp (rIx K) (tVar 0) (tVar 1)) tNil)) (tOp (bAdd K) (tOp bMul (tC (.int 167)) (tVar 1)) (tC (.int 67)))) fun d => ∃ n : Int, d = .int n := by
    apply a_if (p := decide ((k : Int) < ((ns.map Dat.int).length : Int)))
    · walk_at "dv et"
    · intro e
      have hlt : k < (ns.map Dat.int).length := by have := of_decide_eq_true e; omega
      have hg : L2.atI (ns.map Dat.int) (k : Int) = some (.int (ns[k]'(by simpa using hlt))) := L2.atI_nat (by rw [List.getElem?_map, List.getElem?_eq_getElem (by simpa using hlt)]; rfl)
      exact (ev_cb (ea_cons (ev_op (a_var rfl) (a_var rfl) (d_ixL hg)) ea_nil) d_abs).imp fun d h => ⟨_, h⟩
    · intro _
      refine EVP.imp (P := fun d => d = .int (167 * (k : Int) + 67)) ?_ fun d h => ⟨_, h⟩
      walk_at "dv ev"
  refine h1 _ G H sg I R _ fun d v G1 H1 ⟨n, e⟩ s1 rd => ?_
  subst e
  have sg1 : Sig K G1 ((L2.start N__law_pot vs).set 2 (some v)) [some (.lst (ns.map Dat.int)), some (.int (k : Int)), some (.int n)] := (sg.mono s1.g).set (i := 2) rd
  have b1 : (n.fmod 2147483549).natAbs < 2 ^ 31 := fm_abs (by decide) (by decide)
  have c3 : CMulW (n.fmod 2147483549) 40013 := cm_of b1 (b := 60) (by decide) (by decide)
  have hp : CPow 10 18 := ⟨by decide, by decide, by decide⟩
  unfold gName tRet
  dsimp only
  refine en_lst (PA := fun ds => ds = [.int (max 0 (n - 10 ^ (18 : Int).toNat)), .int ((n.fmod 2147483549 * 40013 + 6007 * (k : Int) + 31).fmod 2147483563 + 1)]) ?_ ?_ _ G1 H1 sg1 (s1.inn I) (R.on s1) _ fun ds p xs G2 H2 pd hp' gp no s2 hx rs => ?_
  · walk_at "dv ea"
  · rintro ds rfl
    simp
  · subst pd
    obtain ⟨x, y, rfl, rx, ry⟩ := rs.two
    have hl : H p = none := by
      cases z : H p with
      | none => rfl
      | some o => rw [s1.h p o no z] at hp'; cases hp'
    rw [show x = V.int _ from rx, show y = V.int _ from ry] at hx
    refine q p _ _ G2 H2 hl ?_ no (s1.trans s2) hx ?_
    · exact gp
    · have := fm_lt (a := n.fmod 2147483549 * 40013 + 6007 * (k : Int) + 31) (m := 2147483563) (by decide)
      show (_ : Int).natAbs < 2 ^ 40
      omega
end DV

set_option Elab.async false
set_option autoImplicit false
set_option linter.all false
set_option maxRecDepth 100000
set_option maxHeartbeats 4000000
namespace DV
open PySem PySem.Spec PyProof.Rows L2
/-! ### tactics: evaluate what stands there -/
local macro_rules | `(tactic| walk_at "dv sz") => `(tactic| first | assumption | exact cm_nn (by assumption) (by assumption) (by decide) | exact cm_nd (by assumption) (by assumption) (by decide) | exact cm_dn (by assumption) (by assumption) (by decide) | exact cm_dd (by assumption) (by assumption) (by decide) | decide | omega | (simp; done))
local macro_rules | `(tactic| walk_at "dv rop") => `(tactic| first
  | with_reducible exact d_add | with_reducible exact d_sub | with_reducible exact d_lt | with_reducible exact d_le | with_reducible exact d_gt | with_reducible exact d_ge
  | with_reducible exact d_eqI | with_reducible exact d_neI | with_reducible exact d_eqS | with_reducible exact d_neS | with_reducible exact d_eqB | with_reducible exact d_neB | with_reducible exact d_isB
  | ((with_reducible apply d_mul); walk_at "dv sz") | ((with_reducible apply d_fd); walk_at "dv sz") | ((with_reducible apply d_mod); walk_at "dv sz") | ((with_reducible apply d_pow); walk_at "dv sz")
  | ((with_reducible apply d_ixL); exact rfl) | ((with_reducible apply d_ixT); exact rfl)
  | ((with_reducible apply d_addL); walk_at "dv sz") | ((with_reducible apply d_addS); walk_at "dv sz"))
local macro_rules | `(tactic| walk_at "dv rcp") => `(tactic| first
  | with_reducible exact d_abs | with_reducible exact d_max | with_reducible exact d_min | with_reducible exact d_intI | with_reducible exact d_intB | with_reducible exact d_lenL | with_reducible exact d_lenT | with_reducible exact d_tupL | with_reducible exact d_tupT
  | ((with_reducible apply d_str); walk_at "dv sz") | ((with_reducible apply d_divmod); walk_at "dv sz"))
local macro_rules | `(tactic| walk_at "dv ea") => `(tactic| first
  | with_reducible exact ea_nil
  | ((with_reducible apply ea_cons); (walk_at "dv ev"); (walk_at "dv ea")))
local macro_rules | `(tactic| walk_at "dv et") => `(tactic| first
  | ((with_reducible apply et_not); walk_at "dv et")
  | ((with_reducible apply et_and); (walk_at "dv et"); (intro _; walk_at "dv et"))
  | ((with_reducible apply et_or); (walk_at "dv et"); (intro _; walk_at "dv et"))
  | ((with_reducible apply et_testD); walk_at "dv ev")
  | ((with_reducible apply et_BD); walk_at "dv ev"))
local macro_rules | `(tactic| walk_at "dv call") => `(tactic| fail "no call")
local macro_rules | `(tactic| walk_at "dv ev") => `(tactic| first
  | with_reducible exact ev_int | with_reducible exact ev_str | with_reducible exact ev_bl | with_reducible exact ev_non | with_reducible exact ev_obj
  | ((with_reducible apply a_var); exact rfl)
  | ((with_reducible apply ev_op); (walk_at "dv ev"); (walk_at "dv ev"); (walk_at "dv rop"))
  | ((with_reducible apply ev_un); (walk_at "dv ev"); with_reducible exact d_neg)
  | ((with_reducible apply a_tup); (walk_at "dv ea"); (walk_at "dv sz"))
  | ((with_reducible apply a_lst); (walk_at "dv ea"); (walk_at "dv sz"))
  | ((with_reducible apply v_ftop (by assumption)); walk_at "dv ev")
  | ((with_reducible apply v_fbot (by assumption)); walk_at "dv ev")
  | ((with_reducible apply ev_cb); (walk_at "dv ea"); (walk_at "dv rcp"))
  | ((with_reducible apply a_and); (walk_at "dv ev"); (intro _; walk_at "dv ev"))
  | ((with_reducible apply a_or); (walk_at "dv ev"); (intro _; walk_at "dv ev"))
  | ((with_reducible apply ev_notV); walk_at "dv ev")
  | walk_at "dv call")
theorem k__law_pot {X : Cx} {K : PySem.W.Frag} {mg : PySem.Str → Option Value} {j : Nat} (T : Tx K mg) (hr : RoomG j X.A) (hj : 1 ≤ j := by decide) (hX : AtX X K mg := by exact ⟨rfl, rfl⟩) : CanG X (.ref (He.ga K "_law_pot")) [] (rFn 2 0 (sp_pot K) idv E0) := by
  obtain ⟨rfl, rfl⟩ := hX
  obtain ⟨fd, F⟩ := T.c.def_ 29 (d := d__law_pot) rfl
  exact can_fn (f__law_pot T F) (hr.le hj) (kb_plain F 2 [] (fun us _ => us) (fun a _ => a) fun _ _ _ _ _ _ us ws h1 h2 => match us, h1, ws, h2 with | [_, _], _, [], _ => rfl) pass0
section
variable {c : Ct} {cs : Cells} {Δ : Sts} {te t1 t2 : TE} {i : Nat} {m : Addr} {ds : List Dat} {d : Dat} {z : Int}
/-- reading a list of one's own -/
theorem ev_ixC (hj : Δ[i]? = some (some (.obj (.ref m)))) (hi : L2.atI ds z = some d) : EVD c ((m, .lst ds) :: cs) Δ (tOp (rIx c.K) (tVar i) (tC (.int z))) d := fun σ G H s I R Q q => by
  obtain ⟨v, h1, h2⟩ := s.at_ i _ hj
  obtain ⟨xs, hx, rs⟩ := I.lst
  obtain ⟨w, e1, e2⟩ := rs.atI hi
  exact ⟨v, h1, .inl ⟨m, xs, z, w, h2, rfl, SqL.of hx, e1, q d w G H rfl (Step.refl I) e2⟩⟩
/-- all([t for x in e]), all of them true -/
theorem v_allP {α : Type} (xs : List α) (g : α → Dat) (h : EVD c cs Δ te (.lst (xs.map g))) (hl : xs.length ≤ 100) (he : ∀ x ∈ xs, EVD c cs ((wipeD Δ [i]).set i (some (g x))) t1 (.bl true)) :
    EVD c cs Δ (tCB (rAll c.K) (tCons (tLc (iAny c.K te) (gName i) tYes t1 [i]) tNil)) (.bl true) := by
  have e : (xs.map fun _ => Dat.bl true) = (xs.map fun _ => true).map Dat.bl := by rw [List.map_map]; rfl
  have k := en_mapD (i := i) xs g (fun _ => .bl true) (f_anyL h) (by omega) (by simp) (fun _ _ _ _ _ => rfl) he
  rw [e] at k
  refine EVD.to (ev_cb (ea_cons k ea_nil) d_all) ?_
  congr 1
  rw [List.all_map]
  exact List.all_eq_true.mpr fun _ _ => rfl
theorem v_one {p : Int × Int} {tr : TA} (h : EVL c cs Δ tr [pd p]) (dr : Dr p.1 p.2) : EVD c cs Δ (tG (rFn 1 0 ((S__law_one_right c.K).sp c.K) idv E0) tr tNil) (.bl true) := ev_fs (S := S__law_one_right c.K) p h ea_nil gives_id dr (.inr fun _ z => z)
theorem v_two {p r : Int × Int} {tr : TA} (h : EVL c cs Δ tr [pd p, pd r]) (dr : Dr p.1 p.2) (dr' : Dr r.1 r.2) : EVD c cs Δ (tG (rFn 2 0 ((S__law_two_right c.K).sp c.K) idv E0) tr tNil) (.bl true) := ev_fs (S := S__law_two_right c.K) (p, r) h ea_nil gives_id ⟨dr, dr'⟩ (.inr fun _ z => z)
theorem v_whole {p : Int × Int} {n : Int} {tr : TA} (h : EVL c cs Δ tr [pd p, .int n]) (dr : Dr p.1 p.2) (hn : n.natAbs < 2 ^ 70) : EVD c cs Δ (tG (rFn 2 0 ((S__law_whole_right c.K).sp c.K) idv E0) tr tNil) (.bl true) := ev_fs (S := S__law_whole_right c.K) (p, n) h ea_nil gives_id ⟨dr, hn⟩ (.inr fun _ z => z)
end
theorem v_drawn {K : PySem.W.Frag} {l : Addr} {E : XK} {Xp : Exc → Prop} {cs : Cells} {Δ : Sts} {tr : TA} (h : EVL ⟨K, Pot l, E, Xp⟩ cs Δ tr [.obj (.ref l)]) : EVP ⟨K, Pot l, E, Xp⟩ cs Δ (tG (rFn 1 0 ((S__law_drawn K).sp K) idv E0) tr tNil) fun d => ∃ a b : Int, d = .tup [.int a, .int b] ∧ Dq a b :=
  ev_fs (S := S__law_drawn K) l h ea_nil gives_id rfl (.inr fun _ z => z)
theorem dq_dr {a b : Int} (h : Dq a b) : Dr a b := ⟨h.1, Nat.lt_trans h.2.1 (by decide), Nat.lt_trans h.2.2 (by decide)⟩
theorem dq_3 {a b : Int} (h : Dq a b) : Dr (a * 3) (b * 3) := by
  obtain ⟨h0, h1, h2⟩ := h
  refine ⟨by omega, ?_, ?_⟩
  · rw [Int.natAbs_mul]
    exact Nat.lt_of_lt_of_le (Nat.mul_lt_mul_of_pos_right h1 (by decide : 0 < (3 : Int).natAbs)) (by decide)
  · rw [Int.natAbs_mul]
    exact Nat.lt_of_lt_of_le (Nat.mul_lt_mul_of_pos_right h2 (by decide : 0 < (3 : Int).natAbs)) (by decide)
theorem dq_0 {a b : Int} (h : Dq a b) : Dr 0 b := ⟨h.1, by decide, Nat.lt_trans h.2.2 (by decide)⟩
theorem cm_3 {a : Int} (h : a.natAbs < 2 ^ 50) : CMulW a 3 := cm_of h (b := 60) (by decide) (by decide)
theorem pairs_of : ∀ {es : List Dat}, (∀ e ∈ es, ∃ a b : Int, e = .tup [.int a, .int b] ∧ Dq a b) → ∃ ps : List (Int × Int), es = ps.map pd ∧ ∀ p ∈ ps, Dq p.1 p.2
  | [], _ => ⟨[], rfl, fun _ h => nomatch h⟩
  | e :: es, h => by
    obtain ⟨ps, e1, h1⟩ := pairs_of (es := es) fun x hx => h x (List.mem_cons_of_mem _ hx)
    obtain ⟨a, b, e2, h2⟩ := h e List.mem_cons_self
    refine ⟨(a, b) :: ps, by rw [e1, e2]; rfl, fun p hp => ?_⟩
    rcases List.mem_cons.mp hp with rfl | hp
    · exact h2
    · exact h1 p hp
def S__law_right (K : PySem.W.Frag) : FS Addr where
  arg l := [.obj (.ref l)]
  ok W l := W = Pot l
  res _ d := d = .bl true
theorem f__law_right {P : Program} {w : World} {K : PySem.W.Frag} {mg : PySem.Str → Option Value} {base : Heap} (T : Tx K mg) {fd : FuncData} (F : FunD K d__law_right.name d__law_right.qual d__law_right.params d__law_right.body d__law_right.scope (d__law_right.dvs K) (d__law_right.kws K) (d__law_right.at_ K) fd) : FnG P w K mg base CX0 10 (d__law_right.at_ K) fd ["pot"] ((S__law_right K).sp K) := by
  have nd := sc__law_right.nd
  refine fn_g F sc__law_right (FS.len fun x => by first | rfl | (cases x <;> rfl) | (obtain ⟨_, x⟩ := x; cases x <;> rfl)) fun cdv A fr s H vs Q E hr h => ⟨_, PSs.nox (pss_cons (ps_setLc (i := 1) (own := [("turn", 4)]) (g := gName 4) (tt := tYes) rfl nd rfl rfl (sw_true rfl rfl rfl (by decide +kernel)) (pi_range1 rfl (T.f_ "range") (pa_cons pe_int pa_nil)) (blkOk_by (N := N__law_right) (sc := defScope s__law_right) (by decide +kernel)) (fun _ _ _ _ _ => pg_name (i := 4) nd rfl (Or.inl rfl)) (fun _ _ _ _ _ => pts_nil) (fun _ _ _ _ _ => (pe_g (ks := []) rfl (T.g_ "_law_drawn") (T.k_ "_law_drawn") (k__law_drawn (j := 9) T hr) (pa_cons (pv 0) pa_nil) pk_nil)))
      (pss_cons (ps_expr (pe_bm PySem.F.plainAttrs_list PySem.F.slot_list_append PySem.F.type_list_append mt_append (pv 1) (pa_cons (pe_tup (pa_cons (pe_op o_mul (pe_ix (x_ix T) (pe_ix (x_ix T) (pv 1) pe_int fun _ _ => rfl) pe_int fun _ _ => rfl) pe_int) (pa_cons (pe_op o_mul (pe_ix (x_ix T) (pe_ix (x_ix T) (pv 1) pe_int fun _ _ => rfl) pe_int fun _ _ => rfl) pe_int) pa_nil))) pa_nil)))
      (pss_cons (ps_expr (pe_bm PySem.F.plainAttrs_list PySem.F.slot_list_append PySem.F.type_list_append mt_append (pv 1) (pa_cons (pe_tup (pa_cons pe_int (pa_cons (pe_ix (x_ix T) (pe_ix (x_ix T) (pv 1) pe_int fun _ _ => rfl) pe_int fun _ _ => rfl) pa_nil))) pa_nil)))
      (pss_cons (ps_if (PW.pt (pw_or (pt_not (pt_val (pe_callB (x_all T rfl) rfl (T.f_ "all") PyProof.Rows.boot_all (pa_cons (pe_lc (own := [("one", 2)]) (g := gName 2) (tt := tYes) rfl nd (x_any T (pv 1)) (blkOk_by (N := N__law_right) (sc := defScope s__law_right) (by decide +kernel)) (fun _ _ _ _ _ => pg_name (i := 2) nd rfl (Or.inl rfl)) (fun _ _ _ _ _ => pts_nil) (fun _ _ _ _ _ => (pe_g (ks := []) rfl (T.g_ "_law_one_right") (T.k_ "_law_one_right") (k__law_one_right (j := 9) T hr) (pa_cons (pv 2) pa_nil) pk_nil))) pa_nil)))) (pw_or1 (pt_not (pt_val (pe_g (ks := []) rfl (T.g_ "_law_sums_right") (T.k_ "_law_sums_right") (k__law_sums_right (j := 9) T hr) (pa_cons (pv 0) (pa_cons (pv 1) pa_nil)) pk_nil)))))) (pss_one (ps_ret pe_bl)) pss_nil)
      (pss_cons (ps_for PassesOwn.never rfl (x_any T (pv 1)) (pg_name (i := 2) nd rfl (Or.inr rfl)) (pss_cons (ps_if (pt_not (pt_val (pe_callB (x_all T rfl) rfl (T.f_ "all") PyProof.Rows.boot_all (pa_cons (pe_lc (own := [("other", 5)]) (g := gName 5) (tt := tYes) rfl nd (x_any T (pv 1)) (blkOk_by (N := N__law_right) (sc := defScope s__law_right) (by decide +kernel)) (fun _ _ _ _ _ => pg_name (i := 5) nd rfl (Or.inl rfl)) (fun _ _ _ _ _ => pts_nil) (fun _ _ _ _ _ => (pe_g (ks := []) rfl (T.g_ "_law_two_right") (T.k_ "_law_two_right") (k__law_two_right (j := 9) T hr) (pa_cons (pv 2) (pa_cons (pv 5) pa_nil)) pk_nil))) pa_nil)))) (pss_one (ps_ret pe_bl)) pss_nil)
      (pss_cons (ps_set (i := 3) nd rfl (Or.inl rfl) (pe_g (ks := []) rfl (T.g_ "_law_pick") (T.k_ "_law_pick") (k__law_pick (j := 9) T hr) (pa_cons (pv 0) (pa_cons (pe_lst (pa_cons pe_int (pa_cons pe_int (pa_cons (pe_un o_neg pe_int) (pa_cons pe_int (pa_cons (pe_un o_neg pe_int) (pa_cons (pe_op o_pow pe_int pe_int) pa_nil))))))) pa_nil)) pk_nil))
      (pss_one (ps_if (pt_not (pt_val (pe_g (ks := []) rfl (T.g_ "_law_whole_right") (T.k_ "_law_whole_right") (k__law_whole_right (j := 9) T hr) (pa_cons (pv 2) (pa_cons (pv 3) pa_nil)) pk_nil))) (pss_one (ps_ret pe_bl)) pss_nil)))))
      (pss_one (ps_ret pe_bl))))))), FS.body h fun x W ok => ?_⟩
  try dsimp only [cxOf, Cx.nox, Cx.blk]
  subst ok
  refine at_ [some (.obj (.ref x)), none, none, none, none, none] rfl ?_
  refine q_new (P := fun es => ∃ ps : List (Int × Int), es = ps.map pd ∧ ps.length = 4 ∧ ∀ p ∈ ps, Dq p.1 p.2) ?_ ?_
  · refine (en_lc (PL := fun ds => ∃ n : Int, n = 4 ∧ ds = (List.range n.toNat).map fun (i : Nat) => Dat.int (i : Int)) (Δf := fun d => (wipeD [some (.obj (.ref x)), none, none, none, none, none] [4]).set 4 (some d)) (is := [4]) (Pt := fun _ b => b = true) (Pe := fun _ e => ∃ a b : Int, e = .tup [.int a, .int b] ∧ Dq a b) (f_rng1 (Pn := fun n => n = 4) ((ea_cons ev_int ea_nil).imp fun l h => ⟨4, h, rfl⟩) (fun n h => by rw [h]; decide)) ?_ (fun ds d _ _ => g_name) (by simp) (fun ds d _ _ => et_yes) (fun ds d _ _ _ => v_drawn (ea_cons (a_var rfl) ea_nil))).imp ?_
    · rintro ds ⟨n, rfl, rfl⟩
      simp
    · rintro es ⟨ds, ⟨n, rfl, rfl⟩, h⟩
      obtain ⟨h1, h2⟩ := h.all
      obtain ⟨ps, e, hp⟩ := pairs_of fun e he => (h2 e he).elim fun _ hh => hh.2
      subst e
      exact ⟨ps, rfl, by simpa using h1, hp⟩
  rintro m es ⟨ps, rfl, hl, hd⟩
  obtain ⟨p0, p1, p2, p3, rfl⟩ : ∃ p0 p1 p2 p3, ps = [p0, p1, p2, p3] := by
    match ps, hl with
    | [p0, p1, p2, p3], _ => exact ⟨p0, p1, p2, p3, rfl⟩
  have d0 := hd p0 (by simp)
  have d1 := hd p1 (by simp)
  have d2 := hd p2 (by simp)
  have d3 := hd p3 (by simp)
  have z1 := cm_3 d0.2.1
  have z2 := cm_3 d0.2.2
  refine at_ [some (.obj (.ref x)), some (.obj (.ref m)), none, none, none, none] rfl ?_
  refine q_app (P := fun d => d = pd (p0.1 * 3, p0.2 * 3)) rfl ?_ (by simp) ?_
  · exact a_tup (ea_cons (ev_op (ev_op (a := pd p0) (ev_ixC rfl (L2.atI_nat (j := 0) rfl)) ev_int (d_ixT (ds := [.int p0.1, .int p0.2]) rfl)) ev_int (d_mul z1)) (ea_cons (ev_op (ev_op (a := pd p0) (ev_ixC rfl (L2.atI_nat (j := 0) rfl)) ev_int (d_ixT (ds := [.int p0.1, .int p0.2]) (i := 1) rfl)) ev_int (d_mul z2)) ea_nil)) (by simp)
  rintro d rfl
  refine q_app (P := fun d => d = pd (0, p1.2)) rfl ?_ (by simp) ?_
  · exact a_tup (ea_cons ev_int (ea_cons (ev_op (a := pd p1) (ev_ixC rfl (L2.atI_nat (j := 1) rfl)) ev_int (d_ixT (ds := [.int p1.1, .int p1.2]) (i := 1) rfl)) ea_nil)) (by simp)
  rintro d rfl
  have hall : ∀ p ∈ [p0, p1, p2, p3, (p0.1 * 3, p0.2 * 3), (0, p1.2)], Dr p.1 p.2 := by
    intro p hp
    simp only [List.mem_cons, List.not_mem_nil, or_false] at hp
    rcases hp with rfl | rfl | rfl | rfl | rfl | rfl
    · exact dq_dr d0
    · exact dq_dr d1
    · exact dq_dr d2
    · exact dq_dr d3
    · exact dq_3 d0
    · exact dq_0 d1
  refine s_good (i := 1) rfl ?_
  refine at_ [some (.obj (.ref x)), some (.lst ([p0, p1, p2, p3, (p0.1 * 3, p0.2 * 3), (0, p1.2)].map pd)), none, none, none, none] rfl ?_
  generalize hqs : [p0, p1, p2, p3, (p0.1 * 3, p0.2 * 3), (0, p1.2)] = qs at hall
  have hlen : qs.length = 6 := by rw [← hqs]; rfl
  apply b_no (p := !true || !true)
  · exact et_or (et_not (et_BD (v_allP qs pd (a_var rfl) (by omega) fun p hp => v_one (ea_cons (a_var rfl) ea_nil) (hall p hp)))) fun _ => et_not (et_BD (ev_fs (S := S__law_sums_right K) (x, qs) (ea_cons (a_var rfl) (ea_cons (a_var rfl) ea_nil)) ea_nil gives_id ⟨rfl, by show 3 ≤ qs.length; omega, by show qs.length ≤ 10; omega, hall⟩ (.inr fun _ z => z)))
  · rfl
  refine q_forD (ds := qs.map pd) (fun i cs Δ => cs = [] ∧ ∃ o o3, Δ = [some (.obj (.ref x)), some (.lst (qs.map pd)), o, o3, none, none]) (f_anyL (a_var rfl)) ⟨rfl, none, none, rfl⟩ ?_ ?_
  · rintro i d cs' Δ' hd' ⟨rfl, o, o3, rfl⟩
    rw [List.getElem?_map] at hd'
    obtain ⟨p, hp, rfl⟩ := Option.map_eq_some_iff.mp hd'
    have hm := List.mem_of_getElem? hp
    refine at_ [some (.obj (.ref x)), some (.lst (qs.map pd)), some (pd p), o3, none, none] rfl ?_
    apply b_no (p := !true)
    · exact et_not (et_BD (v_allP qs pd (a_var rfl) (by omega) fun r hr => v_two (p := p) (r := r) (ea_cons (a_var rfl) (ea_cons (a_var rfl) ea_nil)) (hall p hm) (hall r hr)))
    · rfl
    refine q_asgP (P := fun d => d ∈ ([0, 1, -1, 6, -35, 10 ^ 20] : List Int).map Dat.int) (v_pick ?_ (by decide) (by decide)) ?_
    · have hp : CPow 10 20 := ⟨by decide, by decide, by decide⟩
      refine ea_cons (a_var rfl) (ea_cons (EVD.to (d := .lst [.int 0, .int 1, .int (-1), .int 6, .int (-35), .int (10 ^ (20 : Int).toNat)]) ?_ rfl) ea_nil)
      walk_at "dv ev"
    intro d hd2
    obtain ⟨n, hn, rfl⟩ := List.mem_map.mp hd2
    have hn7 : n.natAbs < 2 ^ 70 := by
      simp only [List.mem_cons, List.not_mem_nil, or_false] at hn
      rcases hn with rfl | rfl | rfl | rfl | rfl | rfl <;> decide
    apply b_noN (p := !true)
    · exact et_not (et_BD (v_whole (p := p) (ea_cons (a_var rfl) (ea_cons (a_var rfl) ea_nil)) (hall p hm) hn7))
    · rfl
    · exact ⟨rfl, _, _, rfl⟩
  rintro cs' Δ' ⟨rfl, o, o3, rfl⟩
  apply b_retD (d := .bl true)
  · exact ev_bl
  · rfl
theorem g__law_right {P : Program} {w : World} {K : PySem.W.Frag} {mg : PySem.Str → Option Value} {base : Heap} (T : Tx K mg) : CxG P w K mg base CX0 (He.ga K "_law_right") 10 1 [] ((S__law_right K).sp K) idv := by
  obtain ⟨fd, F⟩ := T.c.def_ 43 (d := d__law_right) rfl
  exact ⟨fd, _, _, f__law_right T F, kb_plain F 1 [] (fun us _ => us) (fun a _ => a) fun _ _ _ _ _ _ us ws h1 h2 => match us, h1, ws, h2 with | [_], _, [], _ => rfl⟩
theorem k__law_right {X : Cx} {K : PySem.W.Frag} {mg : PySem.Str → Option Value} {j : Nat} (T : Tx K mg) (hr : RoomG j X.A) (hj : 10 ≤ j := by decide) (hX : AtX X K mg := by exact ⟨rfl, rfl⟩) : CanG X (.ref (He.ga K "_law_right")) [] (rFn 1 0 ((S__law_right K).sp K) idv E0) := by
  obtain ⟨rfl, rfl⟩ := hX
  exact can_cx (g__law_right T) (hr.le hj) pass0
/-! ### law -/
theorem v_turn {c : Ct} {cs : Cells} {Δ : Sts} {t1 t2 : TE} {ns : List Int} {k : Nat} (hW : c.W = Wld.none) (hL : EVL c cs Δ (tCons t1 (tCons t2 tNil)) [.lst (ns.map Dat.int), .int (k : Int)]) (hk : k ≤ 2) :
    EVD c cs Δ (tG (rFn 1 0 ((S__law_right c.K).sp c.K) idv E0) (tCons (tG (rFn 2 0 (sp_pot c.K) idv E0) (tCons t1 (tCons t2 tNil)) tNil) tNil) tNil) (.bl true) := fun σ G H s I R Q q => by
  show (tCons t1 (tCons t2 tNil)) σ H (fun vs H1 => rFn 2 0 (sp_pot c.K) idv E0 vs [] H1 fun v H2 => rFn 1 0 ((S__law_right c.K).sp c.K) idv E0 [v] [] H2 Q)
  refine hL σ G H s I R _ fun ds vs G1 H1 e s1 rs => ?_
  subst e
  refine ⟨rs.len, rfl, c.W, G1, ns, k, (s1.inn I).nil, rs, hk, fun l a b G2 H2 hl gl no s2 hx hb => ?_⟩
  have s12 := s1.trans s2
  have no2 : ∀ a, ¬ c.W.own a := fun a h => by rw [hW] at h; exact h
  refine ⟨rfl, rfl, l, Pot l, G2, [.obj (.ref l)], ⟨s2.i, ⟨a, b, hx, hb⟩, ?_, List.nodup_nil, fun _ h => nomatch h⟩, ⟨_, _, rfl, rfl, rfl⟩, ⟨rfl, rfl⟩, fun d v G3 H3 hd s3 rd => ?_, fun x _ _ _ _ hx => hx.elim⟩
  · rintro _ rfl
    exact gl
  · have key : ∀ a o, H a = some o → H3 a = some o := fun a o e => by
      have e1 := s1.h a o (no2 a) e
      have e2 := s2.h a o (no2 a) e1
      refine s3.h a o ?_ e2
      intro z
      rw [show a = l from z, hl] at e1
      cases e1
    refine q d v G3 H3 hd ⟨s12.g.trans s3.g, s3.i, ?_, fun a o _ e => key a o e, fun a ha ga => ?_⟩ rd
    · rw [hW]
      exact trivial
    · cases z : H a with
      | none => exact absurd z ha
      | some o =>
        exact s3.d a (by rw [s12.h a o (no2 a) z]; exact nofun) (s12.d a ha ga)
def S_law (K : PySem.W.Frag) : FS (List Int) where
  arg ns := [.lst (ns.map Dat.int)]
  ok W ns := W = Wld.none
  res _ d := d = .bl true
theorem f_law {P : Program} {w : World} {K : PySem.W.Frag} {mg : PySem.Str → Option Value} {base : Heap} (T : Tx K mg) {fd : FuncData} (F : FunD K d_law.name d_law.qual d_law.params d_law.body d_law.scope (d_law.dvs K) (d_law.kws K) (d_law.at_ K) fd) : FnG P w K mg base CX0 11 (d_law.at_ K) fd ["script"] ((S_law K).sp K) := by
  have nd := sc_law.nd
  refine fn_g F sc_law (FS.len fun x => by first | rfl | (cases x <;> rfl) | (obtain ⟨_, x⟩ := x; cases x <;> rfl)) fun cdv A fr s H vs Q E hr h => ⟨_, PSs.nox (pss_one (ps_ret (pe_callB (x_all T rfl) rfl (T.f_ "all") PyProof.Rows.boot_all (pa_cons (pe_lc (own := [("k", 1)]) (g := gName 1) (tt := tYes) rfl nd (pi_range1 rfl (T.f_ "range") (pa_cons (pe_callB (k_max rfl) rfl (T.f_ "max") PyProof.Rows.boot_max (pa_cons pe_int (pa_cons (pe_callB (k_min rfl) rfl (T.f_ "min") PyProof.Rows.boot_min (pa_cons pe_int (pa_cons (pe_callB (x_len T) rfl (T.f_ "len") PySem.boot_len (pa_cons (pv 0) pa_nil)) pa_nil))) pa_nil))) pa_nil)) (blkOk_by (N := N_law) (sc := defScope s_law) (by decide +kernel)) (fun _ _ _ _ _ => pg_name (i := 1) nd rfl (Or.inl rfl)) (fun _ _ _ _ _ => pts_nil) (fun _ _ _ _ _ => (pe_g (ks := []) rfl (T.g_ "_law_right") (T.k_ "_law_right") (k__law_right (j := 10) T hr) (pa_cons (pe_g (ks := []) rfl (T.g_ "_law_pot") (T.k_ "_law_pot") (k__law_pot (j := 10) T hr) (pa_cons (pv 0) (pa_cons (pv 1) pa_nil)) pk_nil) pa_nil) pk_nil))) pa_nil)))), FS.body h fun x W ok => ?_⟩
  try dsimp only [cxOf, Cx.nox, Cx.blk]
  have hW : W = Wld.none := ok
  refine at_ [some (.lst (x.map Dat.int)), none] rfl ?_
  apply b_retD (d := .bl true)
  · have hN : ∃ N : Nat, max (1 : Int) (min 3 ((x.map Dat.int).length : Int)) = (N : Int) ∧ N ≤ 3 := ⟨(max (1 : Int) (min 3 ((x.map Dat.int).length : Int))).toNat, by omega, by omega⟩
    obtain ⟨N, hN, hN3⟩ := hN
    have e : ((List.range N).map fun _ => Dat.bl true) = ((List.range N).map fun _ => true).map Dat.bl := by rw [List.map_map]; rfl
    have hw : EVF ⟨K, W, E, (S_law K).xp x⟩ [] [some (.lst (x.map Dat.int)), none] (iRng1 (tCons (tCB bMax (tCons (tC (.int 1)) (tCons (tCB bMin (tCons (tC (.int 3)) (tCons (tCB (bLen K) (tCons (tVar 0) tNil)) tNil))) tNil))) tNil)) fun ds => ds = (List.range N).map fun (i : Nat) => Dat.int (i : Int) := by
      have h0 : EVL ⟨K, W, E, (S_law K).xp x⟩ [] [some (.lst (x.map Dat.int)), none] (tCons (tCB bMax (tCons (tC (.int 1)) (tCons (tCB bMin (tCons (tC (.int 3)) (tCons (tCB (bLen K) (tCons (tVar 0) tNil)) tNil))) tNil))) tNil) [.int (max (1 : Int) (min 3 ((x.map Dat.int).length : Int)))] := by walk_at "dv ea"
      rw [hN] at h0
      have := f_rng1 (Pn := fun n => n = (N : Int)) (h0.imp fun l h => ⟨N, h, rfl⟩) (fun n h => by omega)
      exact fun σ G H s I R Q k => this σ G H s I R Q fun ds J G2 H2 ⟨n, h1, h2⟩ => k ds J G2 H2 (by rw [h2, h1]; rfl)
    have k := en_mapD (i := 1) (vs := [1]) (List.range N) (fun i => Dat.int (i : Int)) (fun _ => .bl true) hw (by rw [List.length_range]; omega) (by simp) (fun _ _ _ _ _ => rfl) (te := tG (rFn 1 0 ((S__law_right K).sp K) idv E0) (tCons (tG (rFn 2 0 (sp_pot K) idv E0) (tCons (tVar 0) (tCons (tVar 1) tNil)) tNil) tNil) tNil) fun i hi => v_turn (ns := x) (k := i) hW (ea_cons (a_var rfl) (ea_cons (a_var rfl) ea_nil)) (by have := List.mem_range.mp hi; omega)
    rw [e] at k
    refine EVD.to (ev_cb (ea_cons k ea_nil) d_all) ?_
    congr 1
    rw [List.all_map]
    exact List.all_eq_true.mpr fun _ _ => rfl
  · rfl
end DV

set_option Elab.async false
set_option autoImplicit false
set_option linter.all false
set_option maxRecDepth 100000
set_option maxHeartbeats 0
namespace DV
open PySem PySem.Spec PyProof.Rows L2
theorem runs (w : World) : HandSHeadRun.RunEq R11 (PySem.W.view R11.prog [34]) hk ob 3000 names w := by
  intro os
  kernel_rfl
end DV

set_option Elab.async false
set_option autoImplicit false
set_option linter.all false
set_option maxRecDepth 100000
set_option maxHeartbeats 4000000
namespace DV
open PySem PySem.Spec PyProof.Rows L2
theorem facts {P : Program} {w : World} {K : PySem.W.Frag} {h : Heap} {mg : PySem.Str → Option Value} {f : Addr} (X : K.In h) (G : h.Ns mainGlobals mg) (hf : mg ("law" : PySem.Str) = some (.ref f)) (c : He5.SaysA fal fnl K) (e : exB K = true) :
    ∃ fd : FuncData, (∀ (s : Shared) (v : Value), BindsTo s fd ⟨[v], []⟩ [("script", v)]) ∧ (∀ (H : Hp) (a : Addr) (ns : List Int), ns.length ≤ 63 → Only H → SqL K H a (ns.map V.int) → (S_law K).sp K [.ref a] H (fun v _ => v = .bl true) E0) ∧ ∀ base : Heap, FnG P w K mg base CX0 11 f fd ["script"] ((S_law K).sp K) := by
  have T : Tx K mg := ⟨c, e, h, X, G⟩
  have ef := hf.symm.trans (T.g_ "law")
  cases ef
  obtain ⟨fd, F⟩ := T.c.def_ 44 (d := d_law) rfl
  have b := FunD.bindsA (ps := ["script"]) F fun _ _ _ _ _ _ us hl => match us, hl with | [_], _ => rfl
  refine ⟨fd, fun s v => b s [v] rfl, fun H a ns _ _ hS => ?_, fun base => f_law T F⟩
  refine ⟨ns, Wld.none, H, [.lst (ns.map Dat.int)], ⟨Ex.refl H, trivial, fun _ h => h.elim, List.nodup_nil, fun _ h => nomatch h⟩, ⟨_, [], rfl, ⟨a, ns.map V.int, rfl, hS, Reps.ints ns⟩, rfl⟩, ⟨rfl, rfl⟩, fun d v G2 H2 hd _ rd => ?_, fun x _ _ _ _ hx => hx.elim⟩
  have e2 : d = .bl true := hd
  subst e2
  exact rd
end DV
open PySem PySem.W PySem.Calls PyProof.Rows
theorem PySem.Challenge.cw_heardquotes_k11_whole_ratios_reckoned_holds : PySem.Challenge.rw_heardquotes_k11_whole_ratios_reckoned.Holds := by
  w_on; o_law
  refine HandSHeadRun.head_any (r := OpenLaw.row PySem.Challenge.rw_heardquotes_k11_whole_ratios_reckoned) (q := view (OpenLaw.row PySem.Challenge.rw_heardquotes_k11_whole_ratios_reckoned).prog [34]) (H := DV.hk) (ob := DV.ob) (M := 3000) (loose := DV.names) (d := HandSHeadRun.topDef (OpenLaw.row PySem.Challenge.rw_heardquotes_k11_whole_ratios_reckoned).prog 34) (kwd := []) DV.ob_eq
    (by kernel_rfl) (fun s => by kernel_rfl) DV.runs (by kernel_rfl) (by kernel_rfl) (by kernel_rfl) (by rfl) (by first | assumption | decide +kernel) (by decide +kernel) ⟨rfl, rfl, rfl, rfl, rfl, by decide +kernel⟩ ?hw ?hc
  case hw => w_witness2
  case hc =>
    refine DV.walkG (l := PySem.Challenge.rw_heardquotes_k11_whole_ratios_reckoned) (n := 63) (k := 11) (x := "script") rfl (by decide) (by kernel_rfl) ⟨⟨rfl, by decide, by decide⟩, rfl⟩ ?F
    intro w mg fa h Y G hmg0
    obtain ⟨K, KX, c, e⟩ := Y
    have hmg : mg ("law" : PySem.Str) = some (.ref fa) := by
      have e : (HandSHeadRun.topDef (OpenLaw.row PySem.Challenge.rw_heardquotes_k11_whole_ratios_reckoned).prog 34).name = ("law" : PySem.Str) := by kernel_rfl
      rw [← e]
      exact hmg0
    obtain ⟨fd, hb, hp, hF⟩ := DV.facts (P := (PySem.Challenge.rw_heardquotes_k11_whole_ratios_reckoned).prog) (w := w) KX G hmg c e
    exact ⟨K, fd, _, KX, hb, hp, fun base _ _ => hF base⟩
