import PyProof.Rows.All
import Wide.All
import OpenK.AllK
import Wide.FinOn
import HandS.Base
import HandS.Call
import HandS.List
import HandS.Comp
import HandS.Dict
import HandS.Codes
import HandS.Words
import HandS.WordsExc
import HandS.Exc
import HandS.Defaults
import HandS.MakeKw
import HandS.Property
import HandS.ClsMeth
import KE.KOpsOwn
import KE.KCallOwn
import OpenK.KOps
import PyProof.TwoTypes
import PyProof.Raises
import PyProof.ReprRoads
import HandS.Wide
import HandS.WideBits
import HandS.IsInst
import HandS.FStr
import HandS.Style
import HandS.Steps
import PyProof.ReprLen
import HandS.Ends
import HandS.HeadEnd
import HandS.HeadNt
import HandS.Head2
import KE.KStateDown
import HandS.Set
import HandS.SetFor
import KE.SortData
import HandS.SortRule
import HandS.Strs
import HandS.TupAny
import HandS.Conv
import HandS.Text
import HandS.Deep
import HandS.Small
import HandS.Zip
import KE.GoesZip
import PySem.Challenge.RW_heardquotes_k24_whole_charts_by_all_runs
set_option autoImplicit false
set_option linter.all false
set_option maxRecDepth 100000
set_option maxHeartbeats 1000000
/-! Data readings over HandS: a value is told by data (Dat), a reading evaluates to data. -/
namespace DV
open PySem L2

/-! ### data -/
inductive Dat where
  | non | bl (b : Bool) | int (i : Int) | str (x : Str) | tup (ds : List Dat) | lst (ds : List Dat)
  | ins (C : Addr) (fs : List Str) (ds : List Dat) | dct (ks : List Key) (ds : List Dat) | obj (v : V)
  /-- a tuple of ints and texts, made here -/
  | key (k : List Key) | dcT (ks : List (List Key)) (ds : List Dat)
mutual
def Rep (K : PySem.W.Frag) (H : Hp) : Dat → V → Prop
  | .non, v => v = .non
  | .bl b, v => v = .bl b
  | .int i, v => v = .int i
  | .str x, v => v = .str x
  | .obj u, v => v = u
  | .tup ds, v => ∃ a xs, v = .ref a ∧ H a = some (.tup xs) ∧ Reps K H ds xs
  | .lst ds, v => ∃ a xs, v = .ref a ∧ SqL K H a xs ∧ Reps K H ds xs
  | .ins C fs ds, v => ∃ a dx xs, v = .ref a ∧ H a = some (.ins C dx (fs.zip xs)) ∧ fs.length = xs.length ∧ Reps K H ds xs
  | .dct ks ds, v => ∃ a xs, v = .ref a ∧ H a = some (.dK (ks.zip xs)) ∧ ks.length = xs.length ∧ Reps K H ds xs
  | .key k, v => ∃ a, v = .ref a ∧ H a = some (.tup (k.map kV))
  | .dcT ks ds, v => ∃ a xs, v = .ref a ∧ H a = some (.dT (ks.zip xs)) ∧ ks.length = xs.length ∧ Reps K H ds xs
def Reps (K : PySem.W.Frag) (H : Hp) : List Dat → List V → Prop
  | [], vs => vs = []
  | d :: ds, vs => ∃ v r, vs = v :: r ∧ Rep K H d v ∧ Reps K H ds r
end

def Ex (H H' : Hp) : Prop := ∀ a o, H a = some o → H' a = some o
theorem Ex.refl (H : Hp) : Ex H H := fun _ _ h => h
theorem Ex.trans {H H1 H2 : Hp} (a : Ex H H1) (b : Ex H1 H2) : Ex H H2 := fun x o h => b x o (a x o h)
theorem Ex.new {H : Hp} {p : Addr} {o : HO} (h : H p = none) : Ex H (upd H p o) := fun a u e => by
  rw [upd_ne (ne_of_none e h)]
  exact e
theorem Ex.out {H H' : Hp} {p : Addr} {o : HO} (e : Ex H H') (h : H p = none) : Ex H (upd H' p o) := fun a u ha => by
  rw [upd_ne (ne_of_none ha h)]
  exact e a u ha
theorem Ex.both {G H : Hp} {p : Addr} {o : HO} (e : Ex G H) : Ex (upd G p o) (upd H p o) := fun a u h => by
  by_cases q : a = p
  · subst q; rw [upd_same] at h ⊢; exact h
  · rw [upd_ne q] at h ⊢; exact e a u h
theorem Ex.none_of {H H' : Hp} (e : Ex H H') {p : Addr} (h : H' p = none) : H p = none := by
  cases q : H p with
  | none => rfl
  | some o => rw [e p o q] at h; cases h
section
variable {K : PySem.W.Frag} {H H' : Hp}
theorem ex_rd {a : Addr} {u : HO} (e : Ex H H') (h : Rd H a u) : Rd H' a u := by
  rcases h with h | ⟨o, h⟩
  · exact .inl (e a _ h)
  · exact .inr ⟨o, e a _ h⟩
theorem ex_l {a : Addr} {xs : List V} (e : Ex H H') (h : SqL K H a xs) : SqL K H' a xs := by
  rcases h with h | h
  · exact .inl (ex_rd e h)
  · exact .inr h
theorem ex_t {a : Addr} {xs : List V} (e : Ex H H') (h : H a = some (.tup xs)) : SqT K H' a xs := SqT.of (e _ _ h)
mutual
theorem Rep.mono (e : Ex H H') : ∀ (d : Dat) (v : V), Rep K H d v → Rep K H' d v
  | .non, v, h => h
  | .bl b, v, h => h
  | .int i, v, h => h
  | .str x, v, h => h
  | .obj u, v, h => h
  | .tup ds, v, h => by
    obtain ⟨a, xs, h1, h2, h3⟩ := h
    exact ⟨a, xs, h1, e _ _ h2, Reps.mono e ds xs h3⟩
  | .lst ds, v, h => by
    obtain ⟨a, xs, h1, h2, h3⟩ := h
    exact ⟨a, xs, h1, ex_l e h2, Reps.mono e ds xs h3⟩
  | .ins C fs ds, v, h => by
    obtain ⟨a, dx, xs, h1, h2, h3, h4⟩ := h
    exact ⟨a, dx, xs, h1, e _ _ h2, h3, Reps.mono e ds xs h4⟩
  | .dct ks ds, v, h => by
    obtain ⟨a, xs, h1, h2, h3, h4⟩ := h
    exact ⟨a, xs, h1, e _ _ h2, h3, Reps.mono e ds xs h4⟩
  | .key k, v, ⟨a, h1, h2⟩ => ⟨a, h1, e _ _ h2⟩
  | .dcT ks ds, v, h => by
    obtain ⟨a, xs, h1, h2, h3, h4⟩ := h
    exact ⟨a, xs, h1, e _ _ h2, h3, Reps.mono e ds xs h4⟩
theorem Reps.mono (e : Ex H H') : ∀ (ds : List Dat) (vs : List V), Reps K H ds vs → Reps K H' ds vs
  | [], vs, h => h
  | d :: ds, vs, h => by
    obtain ⟨v, r, h1, h2, h3⟩ := h
    exact ⟨v, r, h1, Rep.mono e d v h2, Reps.mono e ds r h3⟩
end
theorem Reps.len : ∀ {ds : List Dat} {vs : List V}, Reps K H ds vs → vs.length = ds.length
  | [], vs, h => by cases (show vs = [] from h); rfl
  | d :: ds, vs, h => by
    obtain ⟨v, r, rfl, _, h3⟩ := h
    simp only [List.length_cons, Reps.len h3]
theorem Reps.get : ∀ {ds : List Dat} {vs : List V} {i : Nat} {d : Dat}, Reps K H ds vs → ds[i]? = some d → ∃ v, vs[i]? = some v ∧ Rep K H d v
  | [], vs, i, d, h, e => by simp at e
  | x :: ds, vs, 0, d, h, e => by
    obtain ⟨v, r, rfl, h2, _⟩ := h
    simp at e; subst e
    exact ⟨v, rfl, h2⟩
  | x :: ds, vs, i + 1, d, h, e => by
    obtain ⟨v, r, rfl, _, h3⟩ := h
    obtain ⟨u, h4, h5⟩ := Reps.get (i := i) (d := d) h3 (by simpa using e)
    exact ⟨u, by simpa using h4, h5⟩
theorem Reps.back : ∀ {ds : List Dat} {vs : List V} {i : Nat} {v : V}, Reps K H ds vs → vs[i]? = some v → ∃ d, ds[i]? = some d ∧ Rep K H d v
  | [], vs, i, v, h, e => by cases (show vs = [] from h); simp at e
  | x :: ds, vs, 0, v, h, e => by
    obtain ⟨u, r, rfl, h2, _⟩ := h
    simp at e; subst e
    exact ⟨x, rfl, h2⟩
  | x :: ds, vs, i + 1, v, h, e => by
    obtain ⟨u, r, rfl, _, h3⟩ := h
    obtain ⟨d, h4, h5⟩ := Reps.back (i := i) (v := v) h3 (by simpa using e)
    exact ⟨d, by simpa using h4, h5⟩
theorem Reps.app : ∀ {ds es : List Dat} {vs us : List V}, Reps K H ds vs → Reps K H es us → Reps K H (ds ++ es) (vs ++ us)
  | [], es, vs, us, h, h' => by cases (show vs = [] from h); exact h'
  | x :: ds, es, vs, us, h, h' => by
    obtain ⟨v, r, rfl, h2, h3⟩ := h
    exact ⟨v, r ++ us, rfl, h2, Reps.app h3 h'⟩
theorem Reps.one {d : Dat} {v : V} (h : Rep K H d v) : Reps K H [d] [v] := ⟨v, [], rfl, h, rfl⟩
theorem Reps.take : ∀ {ds : List Dat} {vs : List V} (n : Nat), Reps K H ds vs → Reps K H (ds.take n) (vs.take n)
  | [], vs, n, h => by cases (show vs = [] from h); simp [Reps]
  | x :: ds, vs, 0, h => rfl
  | x :: ds, vs, n + 1, h => by
    obtain ⟨v, r, rfl, h2, h3⟩ := h
    exact ⟨v, r.take n, rfl, h2, Reps.take n h3⟩
theorem Reps.drop : ∀ {ds : List Dat} {vs : List V} (n : Nat), Reps K H ds vs → Reps K H (ds.drop n) (vs.drop n)
  | [], vs, n, h => by cases (show vs = [] from h); simp [Reps]
  | x :: ds, vs, 0, h => h
  | x :: ds, vs, n + 1, h => by
    obtain ⟨v, r, rfl, h2, h3⟩ := h
    exact Reps.drop n h3
theorem Reps.rev : ∀ {ds : List Dat} {vs : List V}, Reps K H ds vs → Reps K H ds.reverse vs.reverse
  | [], vs, h => by cases (show vs = [] from h); rfl
  | x :: ds, vs, h => by
    obtain ⟨v, r, rfl, h2, h3⟩ := h
    rw [List.reverse_cons, List.reverse_cons]
    exact (Reps.rev h3).app (Reps.one h2)
theorem Reps.two {a b : Dat} {vs : List V} (h : Reps K H [a, b] vs) : ∃ x y, vs = [x, y] ∧ Rep K H a x ∧ Rep K H b y := by
  obtain ⟨v, r, rfl, h2, v', r', rfl, h3, h4⟩ := h
  cases (show r' = [] from h4)
  exact ⟨_, _, rfl, h2, h3⟩
theorem Reps.only {a : Dat} {vs : List V} (h : Reps K H [a] vs) : ∃ x, vs = [x] ∧ Rep K H a x := by
  obtain ⟨v, r, rfl, h2, h3⟩ := h
  cases (show r = [] from h3)
  exact ⟨_, rfl, h2⟩
theorem Reps.nil_iff {vs : List V} (h : Reps K H [] vs) : vs = [] := h
theorem Reps.ints : ∀ (ns : List Int), Reps K H (ns.map Dat.int) (ns.map V.int)
  | [] => rfl
  | n :: ns => ⟨_, _, rfl, rfl, Reps.ints ns⟩
theorem Reps.ints_of : ∀ {ns : List Int} {vs : List V}, Reps K H (ns.map Dat.int) vs → vs = ns.map V.int
  | [], vs, h => h
  | n :: ns, vs, h => by
    obtain ⟨v, r, rfl, h2, h3⟩ := h
    rw [Reps.ints_of h3, show v = V.int n from h2]
    rfl
end

/-! ### the world: cells that others own -/
structure Wld where
  own : Addr → Prop
  ok : Hp → Prop
  has : ∀ H, ok H → ∀ a, own a → H a ≠ none
  ext : ∀ H H', ok H → Ex H H' → ok H'
  wr : ∀ H p o o', ok H → ¬ own p → H p = some o → (∀ φ, o ≠ .ext φ) → ok (upd H p o')
  nt : ∀ H, ok H → ∀ a, own a → ∀ xs, H a ≠ some (.tup xs)
/-- nothing is owned -/
def Wld.none : Wld := ⟨fun _ => False, fun _ => True, fun _ _ _ h => h.elim, fun _ _ _ _ => trivial, fun _ _ _ _ _ _ _ _ => trivial, fun _ _ _ h => h.elim⟩

/-- what a cell of one's own holds -/
inductive Cell where
  | lst (ds : List Dat) | ins (C dx : Addr) (fs : List Str) (ds : List Dat) | dct (ks : List Key) (ds : List Dat) | dcT (ks : List (List Key)) (ds : List Dat)
def RepC (K : PySem.W.Frag) (G : Hp) : Cell → HO → Prop
  | .lst ds, o => ∃ xs, o = .lst xs ∧ Reps K G ds xs
  | .ins C dx fs ds, o => ∃ xs, o = .ins C dx (fs.zip xs) ∧ fs.length = xs.length ∧ Reps K G ds xs
  | .dct ks ds, o => ∃ xs, o = .dK (ks.zip xs) ∧ ks.length = xs.length ∧ Reps K G ds xs
  | .dcT ks ds, o => ∃ xs, o = .dT (ks.zip xs) ∧ ks.length = xs.length ∧ Reps K G ds xs
/-- a cell taken for good -/
def Cell.dat : Cell → Dat
  | .lst ds => .lst ds
  | .ins C _ fs ds => .ins C fs ds
  | .dct ks ds => .dct ks ds
  | .dcT ks ds => .dcT ks ds
theorem RepC.mono {K : PySem.W.Frag} {G G' : Hp} (e : Ex G G') : ∀ {k : Cell} {o : HO}, RepC K G k o → RepC K G' k o
  | .lst ds, o, ⟨xs, h, r⟩ => ⟨xs, h, r.mono e⟩
  | .ins C dx fs ds, o, ⟨xs, h, l, r⟩ => ⟨xs, h, l, r.mono e⟩
  | .dct ks ds, o, ⟨xs, h, l, r⟩ => ⟨xs, h, l, r.mono e⟩
  | .dcT ks ds, o, ⟨xs, h, l, r⟩ => ⟨xs, h, l, r.mono e⟩
theorem RepC.good {K : PySem.W.Frag} {G : Hp} {p : Addr} : ∀ {k : Cell} {o : HO}, RepC K G k o → G p = some o → Rep K G k.dat (.ref p)
  | .lst ds, o, ⟨xs, h, r⟩, g => ⟨p, xs, rfl, SqL.of (by rw [g, h]), r⟩
  | .ins C dx fs ds, o, ⟨xs, h, l, r⟩, g => ⟨p, dx, xs, rfl, by rw [g, h], l, r⟩
  | .dct ks ds, o, ⟨xs, h, l, r⟩, g => ⟨p, xs, rfl, by rw [g, h], l, r⟩
  | .dcT ks ds, o, ⟨xs, h, l, r⟩, g => ⟨p, xs, rfl, by rw [g, h], l, r⟩
theorem RepC.noext {K : PySem.W.Frag} {G : Hp} : ∀ {k : Cell} {o : HO}, RepC K G k o → ∀ φ, o ≠ .ext φ
  | .lst ds, o, ⟨xs, h, r⟩ => fun φ e => by rw [h] at e; cases e
  | .ins C dx fs ds, o, ⟨xs, h, r⟩ => fun φ e => by rw [h] at e; cases e
  | .dct ks ds, o, ⟨xs, h, r⟩ => fun φ e => by rw [h] at e; cases e
  | .dcT ks ds, o, ⟨xs, h, r⟩ => fun φ e => by rw [h] at e; cases e
theorem RepC.notup {K : PySem.W.Frag} {G : Hp} : ∀ {k : Cell} {o : HO}, RepC K G k o → ∀ xs, some o ≠ some (HO.tup xs)
  | .lst ds, o, ⟨xs, h, r⟩ => fun φ e => by rw [h] at e; cases e
  | .ins C dx fs ds, o, ⟨xs, h, r⟩ => fun φ e => by rw [h] at e; cases e
  | .dct ks ds, o, ⟨xs, h, r⟩ => fun φ e => by rw [h] at e; cases e
  | .dcT ks ds, o, ⟨xs, h, r⟩ => fun φ e => by rw [h] at e; cases e
abbrev Cells := List (Addr × Cell)
abbrev Sts := List (Option Dat)

/-- G: what stands for good; H: all; the cells at cs hold these lists -/
structure Inn (K : PySem.W.Frag) (W : Wld) (cs : Cells) (G H : Hp) : Prop where
  ex : Ex G H
  ok : W.ok H
  no : ∀ a, W.own a → G a = none
  nd : (cs.map (·.1)).Nodup
  cell : ∀ c ∈ cs, G c.1 = none ∧ ¬ W.own c.1 ∧ ∃ o, H c.1 = some o ∧ RepC K G c.2 o
structure Step (W : Wld) (G H G2 H2 : Hp) : Prop where
  g : Ex G G2
  i : Ex G2 H2
  ok : W.ok H2
  h : ∀ a o, ¬ W.own a → H a = some o → H2 a = some o
  d : ∀ a, H a ≠ none → (∀ xs, H a ≠ some (.tup xs)) → G a = none → G2 a = none
section
variable {K : PySem.W.Frag} {W : Wld} {cs : Cells} {G H G1 H1 G2 H2 : Hp}
theorem Step.refl (I : Inn K W cs G H) : Step W G H G H := ⟨Ex.refl _, I.ex, I.ok, fun _ _ _ h => h, fun _ _ _ h => h⟩
theorem Step.refl0 (i : Ex G H) (ok : W.ok H) : Step W G H G H := ⟨Ex.refl _, i, ok, fun _ _ _ h => h, fun _ _ _ h => h⟩
theorem Step.trans (a : Step W G H G1 H1) (b : Step W G1 H1 G2 H2) : Step W G H G2 H2 := by
  refine ⟨a.g.trans b.g, b.i, b.ok, fun x o n e => b.h x o n (a.h x o n e), fun x hx nx gx => b.d x ?_ ?_ (a.d x hx nx gx)⟩
  · by_cases n : W.own x
    · exact W.has _ a.ok x n
    · cases q : H x with
      | none => exact absurd q hx
      | some o => rw [a.h x o n q]; exact fun z => nomatch z
  · by_cases n : W.own x
    · exact W.nt _ a.ok x n
    · cases q : H x with
      | none => exact absurd q hx
      | some o => rw [a.h x o n q, ← q]; exact nx
theorem Step.inn (s : Step W G H G2 H2) (I : Inn K W cs G H) : Inn K W cs G2 H2 := by
  refine ⟨s.i, s.ok, fun a n => s.d a (W.has _ I.ok a n) (W.nt _ I.ok a n) (I.no a n), I.nd, fun c hc => ?_⟩
  obtain ⟨g, n, xs, h, r⟩ := I.cell c hc
  exact ⟨s.d _ (by rw [h]; exact fun z => nomatch z) (by rw [h]; exact r.notup) g, n, xs, s.h _ _ n h, r.mono s.g⟩
theorem Inn.sub {cs' : Cells} (I : Inn K W cs G H) (nd : (cs'.map (·.1)).Nodup) (h : ∀ c ∈ cs', c ∈ cs) : Inn K W cs' G H :=
  ⟨I.ex, I.ok, I.no, nd, fun c hc => I.cell c (h c hc)⟩
theorem Inn.nil (I : Inn K W cs G H) : Inn K W [] G H := I.sub List.nodup_nil fun _ h => nomatch h
/-- a new object that stands for good -/
theorem Step.new (I : Inn K W cs G H) {p : Addr} {o : HO} (hp : H p = none) : Step W G H (upd G p o) (upd H p o) := by
  refine ⟨Ex.new (I.ex.none_of hp), I.ex.both, W.ext _ _ I.ok (Ex.new hp), fun a u _ e => (Ex.new hp) a u e, fun a ha _ ga => ?_⟩
  rw [upd_ne (fun z => ha (by rw [z]; exact hp))]
  exact ga
/-- a new object beside -/
theorem Step.aside (I : Inn K W cs G H) {p : Addr} {o : HO} (hp : H p = none) : Step W G H G (upd H p o) :=
  ⟨Ex.refl _, I.ex.out (I.ex.none_of hp), W.ext _ _ I.ok (Ex.new hp), fun a u _ e => (Ex.new hp) a u e, fun _ _ _ g => g⟩
end

/-! ### variables -/
structure Sig (K : PySem.W.Frag) (G : Hp) (σ : L2.St) (Δ : Sts) : Prop where
  len : σ.length = Δ.length
  at_ : ∀ (i : Nat) (d : Dat), Δ[i]? = some (some d) → ∃ v, σ[i]? = some (some v) ∧ Rep K G d v
section
variable {K : PySem.W.Frag} {G G2 : Hp} {σ : L2.St} {Δ : Sts}
theorem Sig.mono (s : Sig K G σ Δ) (e : Ex G G2) : Sig K G2 σ Δ := ⟨s.len, fun i d h => let ⟨v, h1, h2⟩ := s.at_ i d h; ⟨v, h1, h2.mono e⟩⟩
theorem Sig.set (s : Sig K G σ Δ) {i : Nat} {d : Dat} {v : V} (r : Rep K G d v) : Sig K G (σ.set i (some v)) (Δ.set i (some d)) := by
  refine ⟨by rw [List.length_set, List.length_set, s.len], fun j e h => ?_⟩
  by_cases q : i = j
  · subst q
    by_cases l : i < Δ.length
    · rw [List.getElem?_set_self l] at h
      cases h
      exact ⟨v, List.getElem?_set_self (by rw [s.len]; exact l), r⟩
    · rw [List.getElem?_eq_none (by rw [List.length_set]; omega)] at h
      cases h
  · rw [List.getElem?_set_ne q] at h ⊢
    exact s.at_ j e h
theorem Sig.re (s : Sig K G σ Δ) {i : Nat} {d : Dat} {v : V} (h : σ[i]? = some (some v)) (r : Rep K G d v) : Sig K G σ (Δ.set i (some d)) := by
  refine ⟨by rw [List.length_set, s.len], fun j e q => ?_⟩
  by_cases z : i = j
  · subst z
    by_cases l : i < Δ.length
    · rw [List.getElem?_set_self l] at q
      cases q
      exact ⟨v, h, r⟩
    · rw [List.getElem?_eq_none (by rw [List.length_set]; omega)] at q
      cases q
  · rw [List.getElem?_set_ne z] at q
    exact s.at_ j e q
theorem Sig.forget (s : Sig K G σ Δ) (i : Nat) (v : Option V) : Sig K G (σ.set i v) (Δ.set i none) := by
  refine ⟨by rw [List.length_set, List.length_set, s.len], fun j e h => ?_⟩
  by_cases q : i = j
  · subst q
    by_cases l : i < Δ.length
    · rw [List.getElem?_set_self l] at h; cases h
    · rw [List.getElem?_eq_none (by rw [List.length_set]; omega)] at h
      cases h
  · rw [List.getElem?_set_ne q] at h ⊢
    exact s.at_ j e h
/-- a weaker knowledge -/
theorem Sig.weak {Δ' : Sts} (s : Sig K G σ Δ) (hl : Δ'.length = Δ.length) (h : ∀ (i : Nat) (d : Dat), Δ'[i]? = some (some d) → Δ[i]? = some (some d)) : Sig K G σ Δ' :=
  ⟨s.len.trans hl.symm, fun i d e => s.at_ i d (h i d e)⟩
end

/-! ### exceptions -/
structure Exc where
  cls : Addr
  ns : List Str
  ds : List Dat
def RepX (K : PySem.W.Frag) (G H : Hp) (x : Exc) (c : Value) (d : Option Addr) : Prop :=
  c = .ref x.cls ∧ ((x.ns = [] ∧ d = none) ∨ ∃ a xs, d = some a ∧ H a = some (.xd (x.ns.zip xs)) ∧ x.ns.length = xs.length ∧ Reps K G x.ds xs)

/-- what is around: the written part, the world, what is wanted of an exception, which exceptions -/
structure Ct where
  K : PySem.W.Frag
  W : Wld
  E : XK
  X : Exc → Prop

def Raises (c : Ct) (G H : Hp) : Prop := ∀ x cls dd G2 H2, c.X x → Step c.W G H G2 H2 → RepX c.K G2 H2 x cls dd → c.E cls dd H2
theorem Raises.on {c : Ct} {G H G1 H1 : Hp} (r : Raises c G H) (s : Step c.W G H G1 H1) : Raises c G1 H1 := fun x cls dd G2 H2 hx s2 hr => r x cls dd G2 H2 hx (s.trans s2) hr

/-! ### what evaluates to what -/
def EVP (c : Ct) (cs : Cells) (Δ : Sts) (te : TE) (P : Dat → Prop) : Prop :=
  ∀ σ G H, Sig c.K G σ Δ → Inn c.K c.W cs G H → Raises c G H → ∀ Q : VK, (∀ d v G2 H2, P d → Step c.W G H G2 H2 → Rep c.K G2 d v → Q v H2) → te σ H Q
abbrev EVD (c : Ct) (cs : Cells) (Δ : Sts) (te : TE) (d : Dat) : Prop := EVP c cs Δ te fun x => x = d
def EVB (c : Ct) (cs : Cells) (Δ : Sts) (tt : TT) (P : Bool → Prop) : Prop :=
  ∀ σ G H, Sig c.K G σ Δ → Inn c.K c.W cs G H → Raises c G H → ∀ Q : Bool → Hp → Prop, (∀ b G2 H2, P b → Step c.W G H G2 H2 → Q b H2) → tt σ H Q
abbrev EVT (c : Ct) (cs : Cells) (Δ : Sts) (tt : TT) (b : Bool) : Prop := EVB c cs Δ tt fun x => x = b
def EVA (c : Ct) (cs : Cells) (Δ : Sts) (ta : TA) (P : List Dat → Prop) : Prop :=
  ∀ σ G H, Sig c.K G σ Δ → Inn c.K c.W cs G H → Raises c G H → ∀ Q : List V → Hp → Prop, (∀ ds vs G2 H2, P ds → Step c.W G H G2 H2 → Reps c.K G2 ds vs → Q vs H2) → ta σ H Q
abbrev EVL (c : Ct) (cs : Cells) (Δ : Sts) (ta : TA) (ds : List Dat) : Prop := EVA c cs Δ ta fun x => x = ds
/-- a new list, not yet for good -/
def EVN (c : Ct) (cs : Cells) (Δ : Sts) (te : TE) (P : List Dat → Prop) : Prop :=
  ∀ σ G H, Sig c.K G σ Δ → Inn c.K c.W cs G H → Raises c G H → ∀ Q : VK, (∀ ds p xs G2 H2, P ds → H p = none → G2 p = none → ¬ c.W.own p → Step c.W G H G2 H2 → H2 p = some (.lst xs) → Reps c.K G2 ds xs → Q (.ref p) H2) → te σ H Q
/-- operations on values -/
def ROP (c : Ct) (cs : Cells) (r : R2) (a b : Dat) (P : Dat → Prop) : Prop :=
  ∀ G H x y, Inn c.K c.W cs G H → Raises c G H → Rep c.K G a x → Rep c.K G b y → ∀ Q : VK, (∀ d v G2 H2, P d → Step c.W G H G2 H2 → Rep c.K G2 d v → Q v H2) → r x y H Q
abbrev ROD (c : Ct) (cs : Cells) (r : R2) (a b d : Dat) : Prop := ROP c cs r a b fun x => x = d
def RUP (c : Ct) (cs : Cells) (r : V → Hp → VK → Prop) (a : Dat) (P : Dat → Prop) : Prop :=
  ∀ G H x, Inn c.K c.W cs G H → Raises c G H → Rep c.K G a x → ∀ Q : VK, (∀ d v G2 H2, P d → Step c.W G H G2 H2 → Rep c.K G2 d v → Q v H2) → r x H Q
def RCP (c : Ct) (cs : Cells) (r : List V → Hp → VK → Prop) (as : List Dat) (P : Dat → Prop) : Prop :=
  ∀ G H xs, Inn c.K c.W cs G H → Raises c G H → Reps c.K G as xs → ∀ Q : VK, (∀ d v G2 H2, P d → Step c.W G H G2 H2 → Rep c.K G2 d v → Q v H2) → r xs H Q
abbrev RCD (c : Ct) (cs : Cells) (r : List V → Hp → VK → Prop) (as : List Dat) (d : Dat) : Prop := RCP c cs r as fun x => x = d

section
variable {c : Ct} {cs : Cells} {Δ : Sts} {te ta tb tl : TE} {P : Dat → Prop} {d a b e : Dat} {r : R2}
theorem EVP.imp {P' : Dat → Prop} (h : EVP c cs Δ te P) (w : ∀ d, P d → P' d) : EVP c cs Δ te P' := fun σ G H s I R Q q => h σ G H s I R Q fun d v G2 H2 p => q d v G2 H2 (w d p)
theorem EVD.to {d' : Dat} (h : EVD c cs Δ te d) (e : d = d') : EVD c cs Δ te d' := e ▸ h
theorem ev_var {i : Nat} (h : Δ[i]? = some (some d)) : EVD c cs Δ (tVar i) d := fun σ G H s I R Q q => by
  obtain ⟨v, h1, h2⟩ := s.at_ i d h
  exact ⟨v, h1, q d v G H rfl (Step.refl I) h2⟩
theorem ev_c {v : V} (h : ∀ K G, Rep K G d v) : EVD c cs Δ (tC v) d := fun σ G H s I R Q q => q d v G H rfl (Step.refl I) (h _ _)
theorem ev_int {i : Int} : EVD c cs Δ (tC (.int i)) (.int i) := ev_c fun _ _ => rfl
theorem ev_str {x : Str} : EVD c cs Δ (tC (.str x)) (.str x) := ev_c fun _ _ => rfl
theorem ev_bl {x : Bool} : EVD c cs Δ (tC (.bl x)) (.bl x) := ev_c fun _ _ => rfl
theorem ev_non : EVD c cs Δ (tC .non) .non := ev_c fun _ _ => rfl
theorem ev_obj {v : V} : EVD c cs Δ (tC v) (.obj v) := ev_c fun _ _ => rfl
theorem evp_op {Pa : Dat → Prop} {Pb : Dat → Dat → Prop} (ha : EVP c cs Δ ta Pa) (hb : ∀ a, Pa a → EVP c cs Δ tb (Pb a)) (hr : ∀ a b, Pa a → Pb a b → ROP c cs r a b P) : EVP c cs Δ (tOp r ta tb) P := fun σ G H s I R Q q =>
  ha σ G H s I R _ fun a x G1 H1 pa s1 ra => hb a pa σ G1 H1 (s.mono s1.g) (s1.inn I) (R.on s1) _ fun b y G2 H2 pb s2 rb =>
    hr a b pa pb G2 H2 x y (s2.inn (s1.inn I)) ((R.on s1).on s2) (ra.mono s2.g) rb Q fun d v G3 H3 pd s3 rd => q d v G3 H3 pd ((s1.trans s2).trans s3) rd
theorem ev_op (ha : EVD c cs Δ ta a) (hb : EVD c cs Δ tb b) (hr : ROP c cs r a b P) : EVP c cs Δ (tOp r ta tb) P :=
  evp_op ha (fun _ _ => hb) fun _ _ e1 e2 => by subst e1 e2; exact hr
theorem evp_un {Pa : Dat → Prop} {r : V → Hp → VK → Prop} (ha : EVP c cs Δ ta Pa) (hr : ∀ a, Pa a → RUP c cs r a P) : EVP c cs Δ (tUn r ta) P := fun σ G H s I R Q q =>
  ha σ G H s I R _ fun a x G1 H1 pa s1 ra => hr a pa G1 H1 x (s1.inn I) (R.on s1) ra Q fun d v G3 H3 pd s3 rd => q d v G3 H3 pd (s1.trans s3) rd
theorem ev_un {r : V → Hp → VK → Prop} (ha : EVD c cs Δ ta a) (hr : RUP c cs r a P) : EVP c cs Δ (tUn r ta) P := evp_un ha fun _ e => by subst e; exact hr
/-! tests -/
variable {tt uu : TT} {p q : Bool}
theorem et_test {Pb : Bool → Prop} (h : EVP c cs Δ te fun d => ∃ b, d = .bl b ∧ Pb b) : EVB c cs Δ (tTest te) Pb := fun σ G H s I R Q q =>
  h σ G H s I R _ fun d v G2 H2 ⟨b, e, pb⟩ s2 rd => by
    subst e
    exact ⟨b, rd, q b G2 H2 pb s2⟩
theorem et_B {Pb : Bool → Prop} (h : EVP c cs Δ te fun d => ∃ b, d = .bl b ∧ Pb b) : EVB c cs Δ (tB te) Pb := fun σ G H s I R Q q =>
  h σ G H s I R _ fun d v G2 H2 ⟨b, e, pb⟩ s2 rd => by
    subst e
    exact ⟨b, rd, q b G2 H2 pb s2⟩
theorem et_testD (h : EVD c cs Δ te (.bl p)) : EVT c cs Δ (tTest te) p := et_test (h.imp fun d e => ⟨p, e, rfl⟩)
theorem et_BD (h : EVD c cs Δ te (.bl p)) : EVT c cs Δ (tB te) p := et_B (h.imp fun d e => ⟨p, e, rfl⟩)
theorem EVT.to (h : EVT c cs Δ tt p) (e : p = q) : EVT c cs Δ tt q := e ▸ h
theorem et_and (h1 : EVT c cs Δ tt p) (h2 : p = true → EVT c cs Δ uu q) : EVT c cs Δ (tAnd tt uu) (p && q) := fun σ G H s I R Q k =>
  h1 σ G H s I R _ fun b G1 H1 e s1 => by
    subst e
    cases b with
    | true => exact h2 rfl σ G1 H1 (s.mono s1.g) (s1.inn I) (R.on s1) Q fun b G2 H2 e s2 => k b G2 H2 e (s1.trans s2)
    | false => exact k false G1 H1 rfl s1
theorem et_or (h1 : EVT c cs Δ tt p) (h2 : p = false → EVT c cs Δ uu q) : EVT c cs Δ (tOr tt uu) (p || q) := fun σ G H s I R Q k =>
  h1 σ G H s I R _ fun b G1 H1 e s1 => by
    subst e
    cases b with
    | true => exact k true G1 H1 rfl s1
    | false => exact h2 rfl σ G1 H1 (s.mono s1.g) (s1.inn I) (R.on s1) Q fun b G2 H2 e s2 => k b G2 H2 e (s1.trans s2)
theorem et_not (h1 : EVT c cs Δ tt p) : EVT c cs Δ (tNot tt) (!p) := fun σ G H s I R Q k =>
  h1 σ G H s I R _ fun b G1 H1 e s1 => by
    subst e
    exact k _ G1 H1 rfl s1
theorem ev_andV (h1 : EVD c cs Δ ta (.bl p)) (h2 : p = true → EVD c cs Δ tb (.bl q)) : EVD c cs Δ (tAndV ta tb) (.bl (p && q)) := fun σ G H s I R Q k =>
  h1 σ G H s I R _ fun d v G1 H1 e s1 rd => by
    subst e
    refine ⟨p, rd, ?_⟩
    cases p with
    | true => exact h2 rfl σ G1 H1 (s.mono s1.g) (s1.inn I) (R.on s1) Q fun b v G2 H2 e s2 => k b v G2 H2 e (s1.trans s2)
    | false => exact k _ _ G1 H1 rfl s1 rfl
theorem ev_orV (h1 : EVD c cs Δ ta (.bl p)) (h2 : p = false → EVD c cs Δ tb (.bl q)) : EVD c cs Δ (tOrV ta tb) (.bl (p || q)) := fun σ G H s I R Q k =>
  h1 σ G H s I R _ fun d v G1 H1 e s1 rd => by
    subst e
    refine ⟨p, rd, ?_⟩
    cases p with
    | true => exact k _ _ G1 H1 rfl s1 rfl
    | false => exact h2 rfl σ G1 H1 (s.mono s1.g) (s1.inn I) (R.on s1) Q fun b v G2 H2 e s2 => k b v G2 H2 e (s1.trans s2)
theorem ev_notV (h1 : EVD c cs Δ ta (.bl p)) : EVD c cs Δ (tNotV ta) (.bl (!p)) := fun σ G H s I R Q k =>
  h1 σ G H s I R _ fun d v G1 H1 e s1 rd => by
    subst e
    exact ⟨p, rd, k _ _ G1 H1 rfl s1 rfl⟩
theorem evp_if {Pb : Bool → Prop} (h : EVB c cs Δ tt Pb) (h1 : Pb true → EVP c cs Δ ta P) (h2 : Pb false → EVP c cs Δ tb P) : EVP c cs Δ (tIf tt ta tb) P := fun σ G H s I R Q k =>
  h σ G H s I R _ fun b G1 H1 e s1 => by
    cases b with
    | true => exact h1 e σ G1 H1 (s.mono s1.g) (s1.inn I) (R.on s1) Q fun b v G2 H2 e s2 => k b v G2 H2 e (s1.trans s2)
    | false => exact h2 e σ G1 H1 (s.mono s1.g) (s1.inn I) (R.on s1) Q fun b v G2 H2 e s2 => k b v G2 H2 e (s1.trans s2)
theorem ev_if (h : EVT c cs Δ tt p) (h1 : p = true → EVP c cs Δ ta P) (h2 : p = false → EVP c cs Δ tb P) : EVP c cs Δ (tIf tt ta tb) P :=
  evp_if h (fun e => h1 e.symm) (fun e => h2 e.symm)
/-! argument lists -/
variable {tr : TA} {ds : List Dat} {PA : List Dat → Prop}
theorem ea_nil : EVL c cs Δ tNil [] := fun σ G H s I R Q k => k [] [] G H rfl (Step.refl I) rfl
theorem eap_cons {Pa : Dat → Prop} {Pr : Dat → List Dat → Prop} (h : EVP c cs Δ ta Pa) (hr : ∀ d, Pa d → EVA c cs Δ tr (Pr d)) : EVA c cs Δ (tCons ta tr) (fun l => ∃ d ds, l = d :: ds ∧ Pa d ∧ Pr d ds) := fun σ G H s I R Q k =>
  h σ G H s I R _ fun d v G1 H1 pd s1 rd => hr d pd σ G1 H1 (s.mono s1.g) (s1.inn I) (R.on s1) _ fun ds vs G2 H2 pds s2 rds =>
    k (d :: ds) (v :: vs) G2 H2 ⟨d, ds, rfl, pd, pds⟩ (s1.trans s2) ⟨v, vs, rfl, rd.mono s2.g, rds⟩
theorem ea_cons (h : EVD c cs Δ ta d) (hr : EVL c cs Δ tr ds) : EVL c cs Δ (tCons ta tr) (d :: ds) := fun σ G H s I R Q k =>
  eap_cons (Pr := fun _ x => x = ds) h (fun _ _ => hr) σ G H s I R Q fun l vs G2 H2 ⟨d', ds', e, e1, e2⟩ => by
    subst e1 e2
    exact k l vs G2 H2 e
theorem EVA.imp {P' : List Dat → Prop} (h : EVA c cs Δ tr PA) (w : ∀ d, PA d → P' d) : EVA c cs Δ tr P' := fun σ G H s I R Q q => h σ G H s I R Q fun d v G2 H2 p => q d v G2 H2 (w d p)
/-! displays -/
theorem evp_tup {PA : List Dat → Prop} (h : EVA c cs Δ tr PA) (hl : ∀ ds, PA ds → ds.length ≤ 100000) : EVP c cs Δ (tTup tr) (fun d => ∃ ds, d = .tup ds ∧ PA ds) := fun σ G H s I R Q k =>
  h σ G H s I R _ fun ds vs G1 H1 pa s1 rs => by
    refine ⟨Nat.le_trans (by rw [rs.len]; exact hl ds pa) (by decide), fun p hp => ?_⟩
    have n := Step.new (s1.inn I) (o := .tup vs) hp
    exact k (.tup ds) _ _ _ ⟨ds, rfl, pa⟩ (s1.trans n) ⟨p, vs, rfl, upd_same, rs.mono n.g⟩
theorem ev_tup (h : EVL c cs Δ tr ds) (hl : ds.length ≤ 100000 := by decide) : EVD c cs Δ (tTup tr) (.tup ds) := (evp_tup h (fun _ e => by subst e; exact hl)).imp fun d ⟨ds', e, e'⟩ => by subst e'; exact e
theorem en_lst {PA : List Dat → Prop} (h : EVA c cs Δ tr PA) (hl : ∀ ds, PA ds → ds.length ≤ 100000) : EVN c cs Δ (tLst tr) PA := fun σ G H s I R Q k =>
  h σ G H s I R _ fun ds vs G1 H1 pa s1 rs => by
    refine ⟨Nat.le_trans (by rw [rs.len]; exact hl ds pa) (by decide), fun p hp => ?_⟩
    have I1 := s1.inn I
    have n := Step.aside I1 (o := .lst vs) hp
    have no : ¬ c.W.own p := fun z => c.W.has _ I1.ok p z hp
    have hp0 : H p = none := by
      cases q : H p with
      | none => rfl
      | some o => rw [s1.h p o no q] at hp; cases hp
    exact k ds p vs G1 _ pa hp0 (I1.ex.none_of hp) no (s1.trans n) upd_same rs
/-- a new list taken for good -/
theorem EVN.good {PA : List Dat → Prop} (h : EVN c cs Δ te PA) : EVP c cs Δ te (fun d => ∃ ds, d = .lst ds ∧ PA ds) := fun σ G H s I R Q k =>
  h σ G H s I R Q fun ds p xs G1 H1 pa hp gp no s1 hx rs => by
    have g2 : Ex G1 (upd G1 p (.lst xs)) := Ex.new gp
    refine k (.lst ds) _ (upd G1 p (.lst xs)) H1 ⟨ds, rfl, pa⟩ ⟨s1.g.trans g2, fun a o e => ?_, s1.ok, s1.h, fun a ha na ga => ?_⟩ ⟨p, xs, rfl, SqL.of upd_same, rs.mono g2⟩
    · by_cases q : a = p
      · subst q; rw [upd_same] at e; cases e; exact hx
      · rw [upd_ne q] at e; exact s1.i a o e
    · rw [upd_ne (fun z => ha (by rw [z]; exact hp))]
      exact s1.d a ha na ga
theorem EVN.goodD (h : EVN c cs Δ te fun x => x = ds) : EVD c cs Δ te (.lst ds) := h.good.imp fun d ⟨ds', e, e'⟩ => by subst e'; exact e
theorem EVN.imp {P P' : List Dat → Prop} (h : EVN c cs Δ te P) (w : ∀ d, P d → P' d) : EVN c cs Δ te P' := fun σ G H s I R Q q => h σ G H s I R Q fun ds p xs G2 H2 pd => q ds p xs G2 H2 (w ds pd)
theorem ev_lst (h : EVL c cs Δ tr ds) (hl : ds.length ≤ 100000 := by decide) : EVD c cs Δ (tLst tr) (.lst ds) := (en_lst h (fun _ e => by subst e; exact hl)).goodD
/-! built-ins by values -/
theorem evp_cb {r : List V → Hp → VK → Prop} (h : EVA c cs Δ tr PA) (hr : ∀ ds, PA ds → RCP c cs r ds P) : EVP c cs Δ (tCB r tr) P := fun σ G H s I R Q k =>
  h σ G H s I R _ fun ds vs G1 H1 pa s1 rs => hr ds pa G1 H1 vs (s1.inn I) (R.on s1) rs Q fun d v G2 H2 pd s2 => k d v G2 H2 pd (s1.trans s2)
theorem ev_cb {r : List V → Hp → VK → Prop} (h : EVL c cs Δ tr ds) (hr : RCP c cs r ds P) : EVP c cs Δ (tCB r tr) P := evp_cb h fun _ e => by subst e; exact hr
end
end DV

set_option autoImplicit false
set_option linter.all false
set_option maxRecDepth 100000
set_option maxHeartbeats 1000000
namespace DV
open PySem L2

/-! ### statements -/
/-- behind an entry (G0, H0): where one stands now -/
structure Cur (c : Ct) (cs : Cells) (F G0 H0 G H : Hp) : Prop where
  fl : Ex F G
  st : Step c.W G0 H0 G H
  inn : Inn c.K c.W cs G H
  fr : ∀ x ∈ cs, H0 x.1 = none
section
variable {c : Ct} {cs : Cells} {F G0 H0 G H G2 H2 : Hp}
theorem Cur.on (u : Cur c cs F G0 H0 G H) (s : Step c.W G H G2 H2) : Cur c cs F G0 H0 G2 H2 := ⟨u.fl.trans s.g, u.st.trans s, s.inn u.inn, u.fr⟩
end
abbrev NxT := Cells → Sts → Prop
/-- what is promised behind a statement: the answers, what follows, a break, a continue -/
structure Po where
  ret : Dat → Prop
  nx : NxT
  bk : NxT := fun _ _ => False
  ct : NxT := fun _ _ => False
/-- the ends that a promise asks for (F: what stood for good ahead still does) -/
structure EndsOk (c : Ct) (F G0 H0 : Hp) (p : Po) (D : Ends) : Prop where
  ret : ∀ d v G2 H2, p.ret d → Step c.W G0 H0 G2 H2 → Rep c.K G2 d v → D.rt v H2
  nx : ∀ cs Δ σ G H, p.nx cs Δ → Cur c cs F G0 H0 G H → Sig c.K G σ Δ → D.nx σ H
  bk : ∀ cs Δ σ G H, p.bk cs Δ → Cur c cs F G0 H0 G H → Sig c.K G σ Δ → D.bk σ H
  ct : ∀ cs Δ σ G H, p.ct cs Δ → Cur c cs F G0 H0 G H → Sig c.K G σ Δ → D.ct σ H
def STS (c : Ct) (cs : Cells) (Δ : Sts) (t : TS) (p : Po) : Prop :=
  ∀ F G0 H0 σ G H D, Cur c cs F G0 H0 G H → Sig c.K G σ Δ → Raises c G0 H0 → EndsOk c F G0 H0 p D → t D σ H
/-- a target is given the data d: the names at is hold something new, as Δ' tells -/
def GTP (c : Ct) (Δ : Sts) (g : TG) (d : Dat) (Δ' : Sts) (is : List Nat) : Prop :=
  ∀ σ G H v, Ex G H → Sig c.K G σ Δ → Rep c.K G d v → ∀ Q : L2.St → Hp → Prop, (∀ σ', Sig c.K G σ' Δ' → σ'.length = σ.length → (∀ i, i ∉ is → σ'[i]? = σ[i]?) → Q σ' H) → g v σ H Q
def GTPs (c : Ct) (Δ : Sts) (g : TGs) (ds : List Dat) (Δ' : Sts) (is : List Nat) : Prop :=
  ∀ σ G H vs, Ex G H → Sig c.K G σ Δ → Reps c.K G ds vs → ∀ Q : L2.St → Hp → Prop, (∀ σ', Sig c.K G σ' Δ' → σ'.length = σ.length → (∀ i, i ∉ is → σ'[i]? = σ[i]?) → Q σ' H) → g vs σ H Q

/-- knows no more than -/
def Le (Δ' Δ : Sts) : Prop := Δ'.length = Δ.length ∧ ∀ (i : Nat) (d : Dat), Δ'[i]? = some (some d) → Δ[i]? = some (some d)
theorem Le.refl (Δ : Sts) : Le Δ Δ := ⟨rfl, fun _ _ h => h⟩
theorem Le.nil : Le [] [] := Le.refl _
theorem Le.none {Δ' Δ : Sts} {o : Option Dat} (h : Le Δ' Δ) : Le (Option.none :: Δ') (o :: Δ) := ⟨by simp [h.1], fun i d e => by
  cases i with
  | zero => simp at e
  | succ i => simpa using h.2 i d (by simpa using e)⟩
theorem Le.same {Δ' Δ : Sts} {o : Option Dat} (h : Le Δ' Δ) : Le (o :: Δ') (o :: Δ) := ⟨by simp [h.1], fun i d e => by
  cases i with
  | zero => simpa using e
  | succ i => simpa using h.2 i d (by simpa using e)⟩

section
variable {c : Ct} {cs cs' : Cells} {Δ Δ' : Sts} {t u : TS} {p : Po} {te ta tb : TE} {tt : TT} {P : Dat → Prop} {Pb : Bool → Prop} {d a b : Dat} {g : TG} {N : NxT} {i j : Nat}
theorem STS.weak (h : STS c cs Δ' t p) (l : Le Δ' Δ) : STS c cs Δ t p := fun F G0 H0 σ G H D u s R e => h F G0 H0 σ G H D u (s.weak l.1 l.2) R e
theorem STS.cells (h : STS c cs' Δ t p) (nd : (cs.map (·.1)).Nodup → (cs'.map (·.1)).Nodup) (l : ∀ x ∈ cs', x ∈ cs) : STS c cs Δ t p := fun F G0 H0 σ G H D u s R e =>
  h F G0 H0 σ G H D ⟨u.fl, u.st, u.inn.sub (nd u.inn.nd) l, fun x hx => u.fr x (l x hx)⟩ s R e
theorem STS.imp {p' : Po} (h : STS c cs Δ t p) (a : ∀ d, p.ret d → p'.ret d) (b : ∀ cs Δ, p.nx cs Δ → p'.nx cs Δ) (e : ∀ cs Δ, p.bk cs Δ → p'.bk cs Δ) (f : ∀ cs Δ, p.ct cs Δ → p'.ct cs Δ) : STS c cs Δ t p' := fun F G0 H0 σ G H D u s R k =>
  h F G0 H0 σ G H D u s R ⟨fun d v G2 H2 x => k.ret d v G2 H2 (a d x), fun cs Δ σ G H x => k.nx cs Δ σ G H (b _ _ x), fun cs Δ σ G H x => k.bk cs Δ σ G H (e _ _ x), fun cs Δ σ G H x => k.ct cs Δ σ G H (f _ _ x)⟩
theorem s_seq {M : NxT} (h1 : STS c cs Δ t { p with nx := M }) (h2 : ∀ cs' Δ', M cs' Δ' → STS c cs' Δ' u p) : STS c cs Δ (tSeq t u) p := fun F G0 H0 σ G H D cu s R k =>
  h1 F G0 H0 σ G H { D with nx := u D } cu s R ⟨k.ret, fun cs' Δ' σ' G' H' m cu' s' => h2 cs' Δ' m F G0 H0 σ' G' H' D cu' s' R k, k.bk, k.ct⟩
theorem s_next (h : p.nx cs Δ') (l : Le Δ' Δ) : STS c cs Δ tNext p := fun F G0 H0 σ G H D cu s R k => k.nx cs Δ' σ G H h cu (s.weak l.1 l.2)
theorem s_break (h : p.bk cs Δ') (l : Le Δ' Δ) : STS c cs Δ tBreak p := fun F G0 H0 σ G H D cu s R k => k.bk cs Δ' σ G H h cu (s.weak l.1 l.2)
theorem s_cont (h : p.ct cs Δ') (l : Le Δ' Δ) : STS c cs Δ tCont p := fun F G0 H0 σ G H D cu s R k => k.ct cs Δ' σ G H h cu (s.weak l.1 l.2)
theorem q_next (h : STS c cs Δ u p) : STS c cs Δ (tSeq tNext u) p := h
/-! targets -/
theorem g_name : GTP c Δ (gName i) d (Δ.set i (some d)) [i] := fun σ G H v _ s r Q k => k _ (s.set r) List.length_set fun j hj => List.getElem?_set_ne (by simpa using fun e => hj (by simp [e]))
theorem gs_nil : GTPs c Δ gNil [] Δ [] := fun σ G H vs _ s r Q k => ⟨r, k _ s rfl fun _ _ => rfl⟩
theorem gs_cons {gs : TGs} {ds : List Dat} {Δ1 Δ2 : Sts} {is js : List Nat} (h : GTP c Δ g d Δ1 is) (hs : GTPs c Δ1 gs ds Δ2 js) : GTPs c Δ (gCons g gs) (d :: ds) Δ2 (is ++ js) := by
  intro σ G H vs e s r Q k
  obtain ⟨v, vr, rfl, r1, r2⟩ := r
  refine ⟨v, vr, rfl, h σ G H v e s r1 _ fun σ1 s1 l1 e1 => hs σ1 G H vr e s1 r2 Q fun σ2 s2 l2 e2 => k σ2 s2 (l2.trans l1) fun x hx => ?_⟩
  rw [List.mem_append, not_or] at hx
  rw [e2 x hx.2, e1 x hx.1]
theorem g_tup {n : Nat} {gs : TGs} {ds : List Dat} {Δ1 : Sts} {is : List Nat} (h : GTPs c Δ gs ds Δ1 is) (hn : ds.length = n := by rfl) : GTP c Δ (gTup c.K n gs) (.tup ds) Δ1 is := by
  intro σ G H v e s r Q k
  obtain ⟨a, xs, rfl, hq, rs⟩ := r
  exact ⟨a, xs, rfl, ex_t e hq, rs.len.trans hn, h σ G H xs e s rs Q k⟩
/-- a, b = a tuple of two names, three, four -/
theorem g_two : GTP c Δ (gTup c.K 2 (gCons (gName i) (gCons (gName j) gNil))) (.tup [a, b]) ((Δ.set i (some a)).set j (some b)) ([i] ++ ([j] ++ [])) := g_tup (gs_cons g_name (gs_cons g_name gs_nil))
theorem s_asgG {Δf : Dat → Sts} {is : List Nat} (h : EVP c cs Δ te P) (hg : ∀ d, P d → GTP c Δ g d (Δf d) is) (k : ∀ d, P d → p.nx cs (Δf d)) : STS c cs Δ (tAsg te g) p := fun F G0 H0 σ G H D cu s R e =>
  h σ G H s cu.inn (R.on cu.st) _ fun d v G2 H2 pd s2 rd => hg d pd σ G2 H2 v s2.i (s.mono s2.g) rd _ fun σ' s' _ _ => e.nx _ _ _ _ _ (k d pd) (cu.on s2) s'
theorem s_asg (h : EVP c cs Δ te P) (k : ∀ d, P d → p.nx cs (Δ.set i (some d))) : STS c cs Δ (tAsg te (gName i)) p := s_asgG h (fun d pd => g_name) k
theorem q_asgP (h : EVP c cs Δ te P) (k : ∀ d, P d → STS c cs (Δ.set i (some d)) u p) : STS c cs Δ (tSeq (tAsg te (gName i)) u) p :=
  s_seq (M := fun cs' Δ' => ∃ d, P d ∧ cs' = cs ∧ Δ' = Δ.set i (some d)) (s_asg h fun d pd => ⟨d, pd, rfl, rfl⟩) fun cs' Δ' ⟨d, pd, e1, e2⟩ => by subst e1 e2; exact k d pd
theorem q_asg (h : EVD c cs Δ te d) (k : STS c cs (Δ.set i (some d)) u p) : STS c cs Δ (tSeq (tAsg te (gName i)) u) p := q_asgP h fun d e => by subst e; exact k
/-- a target of any form, the data known -/
theorem q_asgT {Δ1 : Sts} {is : List Nat} (h : EVD c cs Δ te d) (hg : GTP c Δ g d Δ1 is) (k : STS c cs Δ1 u p) : STS c cs Δ (tSeq (tAsg te g) u) p :=
  s_seq (M := fun cs' Δ' => cs' = cs ∧ Δ' = Δ1) (s_asgG (Δf := fun _ => Δ1) (is := is) h (fun d e => by cases e; exact hg) fun _ _ => ⟨rfl, rfl⟩) fun cs' Δ' ⟨e1, e2⟩ => by subst e1 e2; exact k
theorem q_asgTP {Δf : Dat → Sts} {is : List Nat} (h : EVP c cs Δ te P) (hg : ∀ d, P d → GTP c Δ g d (Δf d) is) (k : ∀ d, P d → STS c cs (Δf d) u p) : STS c cs Δ (tSeq (tAsg te g) u) p :=
  s_seq (M := fun cs' Δ' => ∃ d, P d ∧ cs' = cs ∧ Δ' = Δf d) (s_asgG h hg fun d pd => ⟨d, pd, rfl, rfl⟩) fun cs' Δ' ⟨d, pd, e1, e2⟩ => by subst e1 e2; exact k d pd
theorem q_par {ta : TA} (h : EVL c cs Δ ta [a, b]) (k : STS c cs ((Δ.set i (some a)).set j (some b)) u p) : STS c cs Δ (tSeq (tPar i j ta) u) p := fun F G0 H0 σ G H D cu s R e =>
  h σ G H s cu.inn (R.on cu.st) _ fun ds vs G2 H2 pd s2 rd => by
    subst pd
    obtain ⟨x, y, rfl, r1, r2⟩ := rd.two
    exact ⟨x, y, rfl, k F G0 H0 _ G2 H2 D (cu.on s2) (((s.mono s2.g).set r1).set r2) R e⟩
theorem s_par {ta : TA} (h : EVL c cs Δ ta [a, b]) (k : p.nx cs ((Δ.set i (some a)).set j (some b))) : STS c cs Δ (tPar i j ta) p := fun F G0 H0 σ G H D cu s R e =>
  h σ G H s cu.inn (R.on cu.st) _ fun ds vs G2 H2 pd s2 rd => by
    subst pd
    obtain ⟨x, y, rfl, r1, r2⟩ := rd.two
    exact ⟨x, y, rfl, e.nx _ _ _ _ _ k (cu.on s2) (((s.mono s2.g).set r1).set r2)⟩
theorem s_drop (h : EVP c cs Δ te P) (k : p.nx cs Δ) : STS c cs Δ (tDrop te) p := fun F G0 H0 σ G H D cu s R e =>
  h σ G H s cu.inn (R.on cu.st) _ fun d v G2 H2 pd s2 rd => e.nx _ _ _ _ _ k (cu.on s2) (s.mono s2.g)
theorem q_drop (h : EVP c cs Δ te P) (k : STS c cs Δ u p) : STS c cs Δ (tSeq (tDrop te) u) p := fun F G0 H0 σ G H D cu s R e =>
  h σ G H s cu.inn (R.on cu.st) _ fun d v G2 H2 pd s2 rd => k F G0 H0 _ _ _ _ (cu.on s2) (s.mono s2.g) R e
theorem s_ret (h : EVP c cs Δ te P) (k : ∀ d, P d → p.ret d) : STS c cs Δ (tRet te) p := fun F G0 H0 σ G H D cu s R e =>
  h σ G H s cu.inn (R.on cu.st) _ fun d v G2 H2 pd s2 rd => e.ret d v G2 H2 (k d pd) (cu.st.trans s2) rd
theorem s_retD (h : EVD c cs Δ te d) (k : p.ret d) : STS c cs Δ (tRet te) p := s_ret h fun _ e => by subst e; exact k
theorem s_retN (k : p.ret .non) : STS c cs Δ tRetN p := fun F G0 H0 σ G H D cu s R e => e.ret .non _ G H k cu.st rfl
theorem s_if {tu tw : TS} (h : EVB c cs Δ tt Pb) (h1 : Pb true → STS c cs Δ tu p) (h2 : Pb false → STS c cs Δ tw p) : STS c cs Δ (tIfS tt tu tw) p := fun F G0 H0 σ G H D cu s R e =>
  h σ G H s cu.inn (R.on cu.st) _ fun b G2 H2 pb s2 => by
    cases b with
    | true => exact h1 pb F G0 H0 σ G2 H2 D (cu.on s2) (s.mono s2.g) R e
    | false => exact h2 pb F G0 H0 σ G2 H2 D (cu.on s2) (s.mono s2.g) R e
theorem q_if {tu tw : TS} {M : NxT} (h : EVB c cs Δ tt Pb) (h1 : Pb true → STS c cs Δ tu { p with nx := M }) (h2 : Pb false → STS c cs Δ tw { p with nx := M }) (k : ∀ cs' Δ', M cs' Δ' → STS c cs' Δ' u p) : STS c cs Δ (tSeq (tIfS tt tu tw) u) p := s_seq (s_if h h1 h2) k
theorem s_yes {tu tw : TS} (h : EVT c cs Δ tt true) (h1 : STS c cs Δ tu p) : STS c cs Δ (tIfS tt tu tw) p := s_if h (fun _ => h1) fun e => nomatch e
theorem s_no {tu tw : TS} (h : EVT c cs Δ tt false) (h1 : STS c cs Δ tw p) : STS c cs Δ (tIfS tt tu tw) p := s_if h (fun e => nomatch e) fun _ => h1
/-- if t: .. (that does not go on); what is behind -/
theorem q_whenNo {tu : TS} (h : EVT c cs Δ tt false) (k : STS c cs Δ u p) : STS c cs Δ (tSeq (tIfS tt tu tNext) u) p :=
  s_seq (M := fun cs' Δ' => cs' = cs ∧ Δ' = Δ) (s_no h (s_next ⟨rfl, rfl⟩ (Le.refl _))) fun cs' Δ' ⟨e1, e2⟩ => by subst e1 e2; exact k
theorem q_when {tu : TS} (h : EVB c cs Δ tt Pb) (h1 : Pb true → STS c cs Δ tu { p with nx := fun _ _ => False }) (k : Pb false → STS c cs Δ u p) : STS c cs Δ (tSeq (tIfS tt tu tNext) u) p :=
  s_seq (M := fun cs' Δ' => Pb false ∧ cs' = cs ∧ Δ' = Δ) (s_if h (fun b => (h1 b).imp (fun _ x => x) (fun _ _ x => x.elim) (fun _ _ x => x) fun _ _ x => x) fun b => s_next ⟨b, rfl, rfl⟩ (Le.refl _)) fun cs' Δ' ⟨b, e1, e2⟩ => by subst e1 e2; exact k b
theorem s_never {h : False} : STS c cs Δ tNever p := h.elim
/-! cells -/
theorem q_new {P : List Dat → Prop} (h : EVN c cs Δ te P) (k : ∀ l ds, P ds → STS c ((l, .lst ds) :: cs) (Δ.set i (some (.obj (.ref l)))) u p) : STS c cs Δ (tSeq (tAsg te (gName i)) u) p := fun F G0 H0 σ G H D cu s R e =>
  h σ G H s cu.inn (R.on cu.st) _ fun ds l xs G2 H2 pd hl gl no s2 hx rs => by
    have cu2 := cu.on s2
    have h0 : H0 l = none := by
      cases q : H0 l with
      | none => rfl
      | some o => rw [cu.st.h l o no q] at hl; cases hl
    refine k l ds pd F G0 H0 _ G2 H2 D ⟨cu2.fl, cu2.st, ⟨cu2.inn.ex, cu2.inn.ok, cu2.inn.no, ?_, ?_⟩, ?_⟩ ((s.mono s2.g).set rfl) R e
    · rw [List.map_cons]
      refine List.nodup_cons.mpr ⟨fun hm => ?_, cu2.inn.nd⟩
      obtain ⟨x, hx, e1⟩ := List.mem_map.mp hm
      obtain ⟨_, _, o, ho, _⟩ := cu.inn.cell x hx
      rw [e1] at ho
      rw [ho] at hl; cases hl
    · intro x hm
      rcases List.mem_cons.mp hm with rfl | hm
      · exact ⟨gl, no, _, hx, xs, rfl, rs⟩
      · exact cu2.inn.cell x hm
    · intro x hm
      rcases List.mem_cons.mp hm with rfl | hm
      · exact h0
      · exact cu.fr x hm
/-- the first cell is taken for good -/
theorem Cur.good {l : Addr} {k : Cell} {F G0 H0 G H : Hp} (cu : Cur c ((l, k) :: cs) F G0 H0 G H) : ∃ o, H l = some o ∧ Cur c cs F G0 H0 (upd G l o) H ∧ Ex G (upd G l o) ∧ Rep c.K (upd G l o) k.dat (.ref l) := by
  obtain ⟨gl, no, o, ho, r⟩ := cu.inn.cell _ List.mem_cons_self
  have h0 : H0 l = none := cu.fr _ List.mem_cons_self
  have e : Ex G (upd G l o) := Ex.new gl
  have nd := List.nodup_cons.mp cu.inn.nd
  have i : Ex (upd G l o) H := fun a u q => by
    by_cases z : a = l
    · rw [z, upd_same] at q; cases q; rw [z]; exact ho
    · rw [upd_ne z] at q; exact cu.inn.ex a u q
  refine ⟨o, ho, ⟨cu.fl.trans e, ⟨cu.st.g.trans e, i, cu.st.ok, cu.st.h, fun a ha na ga => ?_⟩, ⟨i, cu.inn.ok, fun a n => ?_, nd.2, fun x hx => ?_⟩, fun x hx => cu.fr x (List.mem_cons_of_mem _ hx)⟩, e, (r.mono e).good upd_same⟩
  · rw [upd_ne (fun z => ha (by rw [z]; exact h0))]; exact cu.st.d a ha na ga
  · rw [upd_ne (fun z => no (by rw [← z]; exact n))]; exact cu.inn.no a n
  · obtain ⟨g1, n1, o1, h1, r1⟩ := cu.inn.cell x (List.mem_cons_of_mem _ hx)
    refine ⟨?_, n1, o1, h1, r1.mono e⟩
    rw [upd_ne (fun z => nd.1 (List.mem_map.mpr ⟨x, hx, z⟩))]; exact g1
theorem s_good {l : Addr} {k : Cell} (hi : Δ[i]? = some (some (.obj (.ref l)))) (h : STS c cs (Δ.set i (some k.dat)) t p) : STS c ((l, k) :: cs) Δ t p := fun F G0 H0 σ G H D cu s R e => by
  obtain ⟨o, ho, cu2, x, r⟩ := cu.good
  obtain ⟨v, h1, h2⟩ := s.at_ i _ hi
  rw [show v = .ref l from h2] at h1
  exact h F G0 H0 σ _ H D cu2 ((s.mono x).re h1 r) R e
/-- a cell's content is changed -/
theorem Cur.wr {l : Addr} {k k' : Cell} {o' : HO} {F G0 H0 G H : Hp} (cu : Cur c ((l, k) :: cs) F G0 H0 G H) (r : RepC c.K G k' o') : Cur c ((l, k') :: cs) F G0 H0 G (upd H l o') := by
  obtain ⟨gl, no, o, ho, r0⟩ := cu.inn.cell _ List.mem_cons_self
  have h0 : H0 l = none := cu.fr _ List.mem_cons_self
  have nd := List.nodup_cons.mp cu.inn.nd
  have ok : c.W.ok (upd H l o') := c.W.wr H l o o' cu.inn.ok no ho r0.noext
  refine ⟨cu.fl, ⟨cu.st.g, cu.inn.ex.out gl, ok, fun a u n q => ?_, cu.st.d⟩, ⟨cu.inn.ex.out gl, ok, cu.inn.no, cu.inn.nd, fun x hx => ?_⟩, fun x hx => ?_⟩
  · rw [upd_ne (ne_of_none q h0)]; exact cu.st.h a u n q
  · rcases List.mem_cons.mp hx with rfl | hx
    · exact ⟨gl, no, o', upd_same, r⟩
    · obtain ⟨g1, n1, o1, h1, r1⟩ := cu.inn.cell x (List.mem_cons_of_mem _ hx)
      refine ⟨g1, n1, o1, ?_, r1⟩
      rw [upd_ne (fun z => nd.1 (List.mem_map.mpr ⟨x, hx, z⟩))]; exact h1
  · rcases List.mem_cons.mp hx with rfl | hx
    · exact h0
    · exact cu.fr x (List.mem_cons_of_mem _ hx)
theorem Inn.lst {l : Addr} {ds : List Dat} {G H : Hp} (I : Inn c.K c.W ((l, .lst ds) :: cs) G H) : ∃ xs, H l = some (.lst xs) ∧ Reps c.K G ds xs := by
  obtain ⟨gl, no, o, ho, xs, e, r⟩ := I.cell _ List.mem_cons_self
  exact ⟨xs, by rw [ho, e], r⟩
/-- xs.append(e) -/
theorem q_app {l : Addr} {ds : List Dat} (hi : Δ[i]? = some (some (.obj (.ref l)))) (h : EVP c ((l, .lst ds) :: cs) Δ te P) (hl : ds.length < 100000) (k : ∀ d, P d → STS c ((l, .lst (ds ++ [d])) :: cs) Δ u p) :
    STS c ((l, .lst ds) :: cs) Δ (tSeq (tDrop (tBM c.K "list" rAppend (tVar i) (tCons te tNil))) u) p := fun F G0 H0 σ G H D cu s R e => by
  obtain ⟨v, h1, h2⟩ := s.at_ i _ hi
  obtain ⟨xs, hx, _⟩ := cu.inn.lst
  refine ⟨v, h1, ?_⟩
  rw [show v = .ref l from h2]
  refine ⟨.inl ⟨rfl, _, .inl (.inl hx)⟩, ?_⟩
  refine h σ G H s cu.inn (R.on cu.st) _ fun d y G2 H2 pd s2 rd => ?_
  have cu2 := cu.on s2
  obtain ⟨ys, hy, ry⟩ := cu2.inn.lst
  refine ⟨l, ys, y, rfl, rfl, hy, ?_, ?_⟩
  · exact Nat.lt_of_lt_of_le (by rw [ry.len]; exact hl) (by decide)
  · exact k d pd F G0 H0 σ G2 _ D (cu2.wr (k' := .lst (ds ++ [d])) ⟨_, rfl, ry.app (Reps.one rd)⟩) (s.mono s2.g) R e
theorem s_app {l : Addr} {ds : List Dat} (hi : Δ[i]? = some (some (.obj (.ref l)))) (h : EVP c ((l, .lst ds) :: cs) Δ te P) (hl : ds.length < 100000) (k : ∀ d, P d → p.nx ((l, .lst (ds ++ [d])) :: cs) Δ) :
    STS c ((l, .lst ds) :: cs) Δ (tDrop (tBM c.K "list" rAppend (tVar i) (tCons te tNil))) p := fun F G0 H0 σ G H D cu s R e => by
  exact q_app (u := tNext) hi h hl (fun d pd => s_next (k d pd) (Le.refl _)) F G0 H0 σ G H D cu s R e
end
end DV

set_option autoImplicit false
set_option linter.all false
set_option maxRecDepth 100000
set_option maxHeartbeats 1000000
namespace DV
open PySem L2

/-! ### what is walked -/
/-- J walks the data ds as long as G stands -/
def JS (c : Ct) (J : It) (ds : List Dat) (G : Hp) : Prop :=
  ∀ cs G' H', Ex G G' → Inn c.K c.W cs G' H' → ∀ i : Nat, (i = ds.length → J.stop i H') ∧ ∀ d, ds[i]? = some d → J.go i H' ∧ ∀ x H'', J.yld i H' x H'' → ∃ G'', Step c.W G' H' G'' H'' ∧ Rep c.K G'' d x
def EVF (c : Ct) (cs : Cells) (Δ : Sts) (wi : TI) (P : List Dat → Prop) : Prop :=
  ∀ σ G H, Sig c.K G σ Δ → Inn c.K c.W cs G H → Raises c G H → ∀ R : It → Hp → Prop, (∀ ds J G2 H2, P ds → Step c.W G H G2 H2 → JS c J ds G2 → R J H2) → wi σ H R
section
variable {c : Ct} {cs cs' : Cells} {Δ Δ' : Sts} {t u tb : TS} {p : Po} {te tl : TE} {ta : TA} {tt : TT} {P : Dat → Prop} {d a b : Dat} {g : TG} {N : NxT} {i j : Nat} {wi : TI}
theorem f_list {PL : List Dat → Prop} (h : EVP c cs Δ tl fun d => ∃ ds, d = .lst ds ∧ PL ds) : EVF c cs Δ (iList c.K tl) PL := fun σ G H s I R Q k =>
  h σ G H s I R _ fun d v G2 H2 ⟨ds, e, pd⟩ s2 rd => by
    subst e
    obtain ⟨a, xs, rfl, hq, rs⟩ := rd
    refine ⟨a, rfl, ⟨xs, ex_l s2.i hq⟩, k ds _ G2 H2 pd s2 fun cs G' H' e I' i => ⟨fun hl => ⟨xs, ex_l (e.trans I'.ex) hq, by rw [rs.len]; exact Nat.le_of_eq hl.symm⟩, fun d hd => ?_⟩⟩
    obtain ⟨v, hv, rv⟩ := rs.get hd
    refine ⟨⟨xs, v, ex_l (e.trans I'.ex) hq, hv⟩, fun x H'' ⟨e1, hy⟩ => ?_⟩
    subst e1
    have e2 := hy xs (ex_l (e.trans I'.ex) hq)
    rw [hv] at e2; cases e2
    exact ⟨G', Step.refl I', rv.mono e⟩
theorem f_tup {PL : List Dat → Prop} (h : EVP c cs Δ tl fun d => ∃ ds, d = .tup ds ∧ PL ds) : EVF c cs Δ (iTup c.K tl) PL := fun σ G H s I R Q k =>
  h σ G H s I R _ fun d v G2 H2 ⟨ds, e, pd⟩ s2 rd => by
    subst e
    obtain ⟨a, xs, rfl, hq, rs⟩ := rd
    refine ⟨a, rfl, ⟨xs, ex_t s2.i hq⟩, k ds _ G2 H2 pd s2 fun cs G' H' e I' i => ⟨fun hl => ⟨xs, ex_t (e.trans I'.ex) hq, by rw [rs.len]; exact Nat.le_of_eq hl.symm⟩, fun d hd => ?_⟩⟩
    obtain ⟨v, hv, rv⟩ := rs.get hd
    refine ⟨⟨xs, v, ex_t (e.trans I'.ex) hq, hv⟩, fun x H'' ⟨e1, hy⟩ => ?_⟩
    subst e1
    have e2 := hy xs (ex_t (e.trans I'.ex) hq)
    rw [hv] at e2; cases e2
    exact ⟨G', Step.refl I', rv.mono e⟩
theorem f_listD {ds : List Dat} (h : EVD c cs Δ tl (.lst ds)) : EVF c cs Δ (iList c.K tl) fun x => x = ds := f_list (h.imp fun d e => ⟨ds, e, rfl⟩)
theorem f_tupD {ds : List Dat} (h : EVD c cs Δ tl (.tup ds)) : EVF c cs Δ (iTup c.K tl) fun x => x = ds := f_tup (h.imp fun d e => ⟨ds, e, rfl⟩)
theorem f_rng1 {Pn : Int → Prop} (h : EVA c cs Δ ta fun l => ∃ n : Int, l = [.int n] ∧ Pn n) (hn : ∀ n, Pn n → n ≤ 100000 ∧ -100000 ≤ n) : EVF c cs Δ (iRng1 ta) fun l => ∃ n : Int, Pn n ∧ l = (List.range n.toNat).map fun (i : Nat) => Dat.int (i : Int) := fun σ G H s I R Q k =>
  h σ G H s I R _ fun ds vs G2 H2 ⟨n, e, pn⟩ s2 rs => by
    subst e
    obtain ⟨x, rfl, rx⟩ := rs.only
    rw [show x = .int n from rx]
    have := hn n pn
    refine ⟨n, rfl, by omega, by omega, k _ _ G2 H2 ⟨n, pn, rfl⟩ s2 fun cs G' H' e I' i => ⟨fun hl => ?_, fun d hd => ?_⟩⟩
    · rw [List.length_map, List.length_range] at hl
      exact Nat.le_of_eq hl.symm
    · rw [List.getElem?_map] at hd
      have hi : i < n.toNat := by
        rcases Nat.lt_or_ge i n.toNat with q | q
        · exact q
        · rw [List.getElem?_eq_none (by simpa using q)] at hd; cases hd
      rw [List.getElem?_range hi] at hd
      cases hd
      refine ⟨hi, fun x H'' ⟨e1, e2⟩ => ?_⟩
      subst e1 e2
      exact ⟨G', Step.refl I', by rw [Int.zero_add]; rfl⟩
/-! ### for, while -/
theorem s_for {PL : List Dat → Prop} {Δf : Sts → Dat → Sts} {is : List Nat} (I : List Dat → Nat → Cells → Sts → Prop) (hw : EVF c cs Δ wi PL) (h0 : ∀ ds, PL ds → I ds 0 cs Δ)
    (hs : ∀ ds i d cs' Δ', PL ds → ds[i]? = some d → I ds i cs' Δ' → GTP c Δ' g d (Δf Δ' d) is ∧ STS c cs' (Δf Δ' d) tb { ret := p.ret, nx := I ds (i + 1), ct := I ds (i + 1), bk := p.nx })
    (hd : ∀ ds cs' Δ', PL ds → I ds ds.length cs' Δ' → p.nx cs' Δ') : STS c cs Δ (tFor wi g tb) p := fun F G0 H0 σ G H D cu s R e =>
  hw σ G H s cu.inn (R.on cu.st) _ fun ds J G1 H1 pl s1 js => by
    have cu1 := cu.on s1
    refine ⟨fun i m σ' H' => m = ds.length - i ∧ i ≤ ds.length ∧ ∃ cs' Δ' G', I ds i cs' Δ' ∧ Cur c cs' G1 G0 H0 G' H' ∧ Sig c.K G' σ' Δ', ⟨_, rfl, Nat.zero_le _, cs, Δ, G1, h0 ds pl, ⟨Ex.refl _, cu1.st, cu1.inn, cu1.fr⟩, s.mono s1.g⟩, ?_⟩
    rintro i m σ' H' ⟨rfl, hi, cs', Δ', G', hI, cu', s'⟩
    have e0 : Ex F G1 := cu1.fl
    by_cases hlt : i < ds.length
    · have hget : ds[i]? = some ds[i] := List.getElem?_eq_getElem hlt
      obtain ⟨hgo, hy⟩ := (js cs' G' H' cu'.fl cu'.inn i).2 _ hget
      refine .inr ⟨hgo, fun σ2 H2 => ∃ cs2 Δ2 G2, I ds (i + 1) cs2 Δ2 ∧ Cur c cs2 G1 G0 H0 G2 H2 ∧ Sig c.K G2 σ2 Δ2, fun σ2 H2 ⟨cs2, Δ2, G2, i2, c2, g2⟩ => ⟨ds.length - (i + 1), by omega, rfl, by omega, cs2, Δ2, G2, i2, c2, g2⟩, fun x H'' y => ?_⟩
      obtain ⟨G'', st, rx⟩ := hy x H'' y
      have cu2 := cu'.on st
      obtain ⟨ht, hb⟩ := hs ds i _ cs' Δ' pl hget hI
      refine ht σ' G'' H'' x st.i (s'.mono st.g) rx _ fun σ2 s2 _ _ => ?_
      exact hb G1 G0 H0 σ2 G'' H'' _ cu2 s2 R ⟨e.ret, fun cs3 Δ3 σ3 G3 H3 n c3 g3 => ⟨cs3, Δ3, G3, n, c3, g3⟩, fun cs3 Δ3 σ3 G3 H3 n c3 g3 => e.nx cs3 Δ3 σ3 G3 H3 n ⟨e0.trans c3.fl, c3.st, c3.inn, c3.fr⟩ g3, fun cs3 Δ3 σ3 G3 H3 n c3 g3 => ⟨cs3, Δ3, G3, n, c3, g3⟩⟩
    · have ei : i = ds.length := by omega
      subst ei
      exact .inl ⟨(js cs' G' H' cu'.fl cu'.inn _).1 rfl, e.nx cs' Δ' σ' G' H' (hd ds cs' Δ' pl hI) ⟨e0.trans cu'.fl, cu'.st, cu'.inn, cu'.fr⟩ s'⟩
/-- over known data, the target a name -/
theorem s_forD {ds : List Dat} (I : Nat → Cells → Sts → Prop) (hw : EVF c cs Δ wi fun x => x = ds) (h0 : I 0 cs Δ)
    (hs : ∀ i d cs' Δ', ds[i]? = some d → I i cs' Δ' → STS c cs' (Δ'.set j (some d)) tb { ret := p.ret, nx := I (i + 1), ct := I (i + 1), bk := p.nx }) (hd : ∀ cs' Δ', I ds.length cs' Δ' → p.nx cs' Δ') : STS c cs Δ (tFor wi (gName j) tb) p :=
  s_for (Δf := fun Δ' d => Δ'.set j (some d)) (is := [j]) (fun _ => I) hw (fun _ _ => h0) (fun ds' i d cs' Δ' e hd hI => ⟨g_name, hs i d cs' Δ' (by rw [← e]; exact hd) hI⟩) fun ds' cs' Δ' e hI => hd cs' Δ' (by rw [← e]; exact hI)
theorem q_forD {ds : List Dat} (I : Nat → Cells → Sts → Prop) (hw : EVF c cs Δ wi fun x => x = ds) (h0 : I 0 cs Δ)
    (hs : ∀ i d cs' Δ', ds[i]? = some d → I i cs' Δ' → STS c cs' (Δ'.set j (some d)) tb { ret := p.ret, nx := I (i + 1), ct := I (i + 1), bk := I ds.length }) (hd : ∀ cs' Δ', I ds.length cs' Δ' → STS c cs' Δ' u p) : STS c cs Δ (tSeq (tFor wi (gName j) tb) u) p :=
  s_seq (M := I ds.length) (s_forD I hw h0 hs fun _ _ h => h) hd
theorem s_while (I : Nat → Cells → Sts → Prop) (m0 : Nat) (h0 : I m0 cs Δ)
    (hs : ∀ m cs' Δ', I m cs' Δ' → ∃ Pb : Bool → Prop, EVB c cs' Δ' tt Pb ∧ (Pb true → STS c cs' Δ' tb { ret := p.ret, nx := fun cs2 Δ2 => ∃ m', m' < m ∧ I m' cs2 Δ2, ct := fun cs2 Δ2 => ∃ m', m' < m ∧ I m' cs2 Δ2, bk := p.nx }) ∧ (Pb false → p.nx cs' Δ')) :
    STS c cs Δ (tWhile tt tb) p := fun F G0 H0 σ G H D cu s R e => by
  refine ⟨fun m σ' H' => ∃ cs' Δ' G', I m cs' Δ' ∧ Cur c cs' F G0 H0 G' H' ∧ Sig c.K G' σ' Δ', ⟨m0, cs, Δ, G, h0, cu, s⟩, ?_⟩
  rintro m σ' H' ⟨cs', Δ', G', hI, cu', s'⟩
  obtain ⟨Pb, h1, h2, h3⟩ := hs m cs' Δ' hI
  refine h1 σ' G' H' s' cu'.inn (R.on cu'.st) _ fun b G2 H2 pb s2 => ?_
  have cu2 := cu'.on s2
  cases b with
  | true =>
    refine ⟨fun σ3 H3 => ∃ m' cs3 Δ3 G3, m' < m ∧ I m' cs3 Δ3 ∧ Cur c cs3 F G0 H0 G3 H3 ∧ Sig c.K G3 σ3 Δ3, fun σ3 H3 ⟨m', cs3, Δ3, G3, l, i3, c3, g3⟩ => ⟨m', l, cs3, Δ3, G3, i3, c3, g3⟩, ?_⟩
    exact h2 pb F G0 H0 σ' G2 H2 _ cu2 (s'.mono s2.g) R ⟨e.ret, fun cs3 Δ3 σ3 G3 H3 ⟨m', l, n⟩ c3 g3 => ⟨m', cs3, Δ3, G3, l, n, c3, g3⟩, e.nx, fun cs3 Δ3 σ3 G3 H3 ⟨m', l, n⟩ c3 g3 => ⟨m', cs3, Δ3, G3, l, n, c3, g3⟩⟩
  | false => exact e.nx cs' Δ' σ' G2 H2 (h3 pb) cu2 (s'.mono s2.g)
theorem q_while (I : Nat → Cells → Sts → Prop) (M : NxT) (m0 : Nat) (h0 : I m0 cs Δ)
    (hs : ∀ m cs' Δ', I m cs' Δ' → ∃ Pb : Bool → Prop, EVB c cs' Δ' tt Pb ∧ (Pb true → STS c cs' Δ' tb { ret := p.ret, nx := fun cs2 Δ2 => ∃ m', m' < m ∧ I m' cs2 Δ2, ct := fun cs2 Δ2 => ∃ m', m' < m ∧ I m' cs2 Δ2, bk := M }) ∧ (Pb false → M cs' Δ'))
    (k : ∀ cs' Δ', M cs' Δ' → STS c cs' Δ' u p) : STS c cs Δ (tSeq (tWhile tt tb) u) p := s_seq (M := M) (s_while I m0 h0 hs) k
end

/-! ### comprehensions -/
def wipeD (Δ : Sts) : List Nat → Sts
  | [] => Δ
  | v :: vs => (wipeD Δ vs).set v none
theorem Sig.wipe {K : PySem.W.Frag} {G : Hp} {σ : L2.St} {Δ : Sts} (s : Sig K G σ Δ) : ∀ vs : List Nat, Sig K G (wipe σ vs) (wipeD Δ vs)
  | [] => s
  | v :: vs => (Sig.wipe s vs).forget v none
theorem wipe_get {σ : L2.St} {i : Nat} : ∀ {vs : List Nat}, i ∉ vs → (wipe σ vs)[i]? = σ[i]? := wipe_out
theorem wipe_in {σ : L2.St} {i : Nat} : ∀ {vs : List Nat}, i ∈ vs → (wipe σ vs)[i]? = none ∨ (wipe σ vs)[i]? = some none
  | v :: vs, h => by
    by_cases e : v = i
    · subst e
      unfold wipe
      by_cases l : v < (wipe σ vs).length
      · rw [List.getElem?_set_self l]; exact .inr rfl
      · rw [List.getElem?_eq_none (by simpa using l)]; exact .inl rfl
    · unfold wipe
      rw [List.getElem?_set_ne e]
      rcases List.mem_cons.mp h with z | z
      · exact absurd z.symm e
      · exact wipe_in z
theorem wipe_same {σ σ' : L2.St} {vs is : List Nat} (hl : σ'.length = σ.length) (h : ∀ i, i ∉ is → σ'[i]? = (wipe σ vs)[i]?) (hs : ∀ i ∈ is, i ∈ vs) : wipe σ' vs = wipe σ vs := by
  refine List.ext_getElem? fun i => ?_
  by_cases hi : i ∈ vs
  · have l1 : (wipe σ' vs).length = (wipe σ vs).length := by rw [wipe_length, wipe_length, hl]
    by_cases l : i < (wipe σ vs).length
    · rcases wipe_in (σ := σ') hi with a | a
      · rw [List.getElem?_eq_none_iff] at a; omega
      · rcases wipe_in (σ := σ) hi with b | b
        · rw [List.getElem?_eq_none_iff] at b; omega
        · rw [a, b]
    · rw [List.getElem?_eq_none (by omega), List.getElem?_eq_none (by omega)]
  · rw [wipe_get hi, h i (fun z => hi (hs i z))]
/-- what a comprehension makes of the items: Pt the tests' answers, Pe the elements -/
inductive CompR (Pt : Dat → Bool → Prop) (Pe : Dat → Dat → Prop) : List Dat → List Dat → Prop
  | nil : CompR Pt Pe [] []
  | yes {ds es : List Dat} {d e : Dat} : CompR Pt Pe ds es → Pt d true → Pe d e → CompR Pt Pe (ds ++ [d]) (es ++ [e])
  | no {ds es : List Dat} {d : Dat} : CompR Pt Pe ds es → Pt d false → CompR Pt Pe (ds ++ [d]) es
theorem take_more {α : Type} : ∀ {l : List α} {i : Nat} {x : α}, l[i]? = some x → l.take (i + 1) = l.take i ++ [x]
  | [], i, x, h => by simp at h
  | a :: l, 0, x, h => by
    have e : a = x := Option.some.inj h
    subst e
    rfl
  | a :: l, i + 1, x, h => by
    have ih := take_more (l := l) (i := i) (x := x) h
    show a :: l.take (i + 1) = a :: l.take i ++ [x]
    rw [ih]
    rfl
theorem CompR.len {Pt : Dat → Bool → Prop} {Pe : Dat → Dat → Prop} {ds es : List Dat} (h : CompR Pt Pe ds es) : es.length ≤ ds.length := by
  induction h with
  | nil => exact Nat.le_refl _
  | yes _ _ _ ih => simp only [List.length_append, List.length_singleton]; omega
  | no _ _ ih => simp only [List.length_append, List.length_singleton]; omega
/-- no test, elements known -/
theorem CompR.map {Pe : Dat → Dat → Prop} {f : Dat → Dat} {ds es : List Dat} (h : CompR (fun _ b => b = true) Pe ds es) (hf : ∀ d ∈ ds, ∀ e, Pe d e → e = f d) : es = ds.map f := by
  induction h with
  | nil => rfl
  | yes _ _ pe ih =>
    rw [List.map_append, ← ih (fun d hd => hf d (List.mem_append_left _ hd)), hf _ (by simp) _ pe]
    rfl
  | no _ q _ => cases q
theorem CompR.filt {Pt : Dat → Bool → Prop} {Pe : Dat → Dat → Prop} {t : Dat → Bool} {f : Dat → Dat} {ds es : List Dat} (h : CompR Pt Pe ds es) (ht : ∀ d ∈ ds, ∀ b, Pt d b → b = t d) (hf : ∀ d ∈ ds, ∀ e, t d = true → Pe d e → e = f d) : es = (ds.filter t).map f := by
  induction h with
  | nil => rfl
  | yes _ pt pe ih =>
    have q := ht _ (by simp) _ pt
    rw [List.filter_append, List.map_append, ← ih (fun d hd => ht d (List.mem_append_left _ hd)) (fun d hd => hf d (List.mem_append_left _ hd)), List.filter_cons, if_pos q.symm, hf _ (by simp) _ q.symm pe]
    rfl
  | no _ pt ih =>
    have q := ht _ (by simp) _ pt
    rw [List.filter_append, List.map_append, ← ih (fun d hd => ht d (List.mem_append_left _ hd)) (fun d hd => hf d (List.mem_append_left _ hd)), List.filter_cons, if_neg (by rw [← q]; decide)]
    simp
/-- no test: as many, each by its item -/
theorem CompR.all {Pe : Dat → Dat → Prop} {ds es : List Dat} (h : CompR (fun _ b => b = true) Pe ds es) : es.length = ds.length ∧ ∀ e ∈ es, ∃ d ∈ ds, Pe d e := by
  induction h with
  | nil => exact ⟨rfl, fun _ h => nomatch h⟩
  | yes _ _ pe ih =>
    refine ⟨by simp [ih.1], fun e he => ?_⟩
    rcases List.mem_append.mp he with q | q
    · obtain ⟨d, h1, h2⟩ := ih.2 e q
      exact ⟨d, List.mem_append_left _ h1, h2⟩
    · rw [List.mem_singleton] at q
      subst q
      exact ⟨_, by simp, pe⟩
  | no _ q _ => cases q
section
variable {c : Ct} {cs cs' : Cells} {Δ Δ' : Sts} {te tl : TE} {ta : TA} {tt : TT} {P : Dat → Prop} {d a b : Dat} {g : TG} {i j : Nat} {wi : TI} {vs : List Nat}
theorem en_lc {PL : List Dat → Prop} {Δf : Dat → Sts} {is : List Nat} {Pt : Dat → Bool → Prop} {Pe : Dat → Dat → Prop} (hw : EVF c cs Δ wi PL) (hz : ∀ ds, PL ds → ds.length ≤ 50000) (hg : ∀ ds d, PL ds → d ∈ ds → GTP c (wipeD Δ vs) g d (Δf d) is) (hv : ∀ i ∈ is, i ∈ vs)
    (ht : ∀ ds d, PL ds → d ∈ ds → EVB c cs (Δf d) tt (Pt d)) (he : ∀ ds d, PL ds → d ∈ ds → Pt d true → EVP c cs (Δf d) te (Pe d)) : EVN c cs Δ (tLc wi g tt te vs) fun es => ∃ ds, PL ds ∧ CompR Pt Pe ds es := fun σ G H s I R Q k =>
  hw σ G H s I R _ fun ds J G1 H1 pl s1 js D hD => by
    have I1 := s1.inn I
    have noD : ¬ c.W.own D := fun z => c.W.has _ I1.ok D z hD
    have hD0 : H D = none := by
      cases q : H D with
      | none => rfl
      | some o => rw [s1.h D o noD q] at hD; cases hD
    refine ⟨fun i m H' => m = ds.length - i ∧ i ≤ ds.length ∧ ∃ G' xs es, CompR Pt Pe (ds.take i) es ∧ Step c.W G1 H1 G' H' ∧ Inn c.K c.W cs G' H' ∧ G' D = none ∧ H' D = some (.lst xs) ∧ Reps c.K G' es xs, ⟨_, rfl, Nat.zero_le _, G1, [], [], .nil, Step.aside I1 hD, (Step.aside I1 hD).inn I1, I1.ex.none_of hD, upd_same, rfl⟩, ?_⟩
    rintro i m H' ⟨rfl, hi, G', xs, es, hcr, st, I', gD, hx, rs⟩
    by_cases hlt : i < ds.length
    · have hget : ds[i]? = some ds[i] := List.getElem?_eq_getElem hlt
      have hmem : ds[i] ∈ ds := List.getElem_mem hlt
      obtain ⟨hgo, hy⟩ := (js cs G' H' st.g I' i).2 _ hget
      refine .inr ⟨hgo, fun H2 => ∃ G2 xs es, CompR Pt Pe (ds.take (i + 1)) es ∧ Step c.W G1 H1 G2 H2 ∧ Inn c.K c.W cs G2 H2 ∧ G2 D = none ∧ H2 D = some (.lst xs) ∧ Reps c.K G2 es xs, fun H2 ⟨G2, xs, es, a⟩ => ⟨ds.length - (i + 1), by omega, rfl, by omega, G2, xs, es, a⟩, fun x H'' y => ?_⟩
      obtain ⟨G'', st2, rx⟩ := hy x H'' y
      have I'' := st2.inn I'
      have st'' := st.trans st2
      have sw : Sig c.K G'' (wipe σ vs) (wipeD Δ vs) := (s.mono (s1.g.trans st''.g)).wipe vs
      refine hg ds _ pl hmem _ G'' H'' x st2.i sw rx _ fun σ' s' hlen hσ => ⟨?_, ?_⟩
      · have hl : σ'.length = σ.length := by rw [hlen, wipe_length]
        exact wipe_same hl hσ hv
      · refine ht ds _ pl hmem σ' G'' H'' s' I'' ((R.on s1).on st'') _ fun b G3 H3 pb s3 => ?_
        have I3 := s3.inn I''
        have st3 := st''.trans s3
        have gD3 : G3 D = none := s3.d D (by rw [st2.h D _ noD hx]; exact fun z => nomatch z) (by rw [st2.h D _ noD hx]; exact fun _ z => nomatch z) (st2.d D (by rw [hx]; exact fun z => nomatch z) (by rw [hx]; exact fun _ z => nomatch z) gD)
        have hx3 : H3 D = some (.lst xs) := s3.h D _ noD (st2.h D _ noD hx)
        have rs3 : Reps c.K G3 es xs := rs.mono (st2.g.trans s3.g)
        cases b with
        | false => exact ⟨G3, xs, es, by rw [take_more hget]; exact hcr.no pb, st3, I3, gD3, hx3, rs3⟩
        | true =>
          refine he ds _ pl hmem pb σ' G3 H3 (s'.mono s3.g) I3 ((R.on s1).on st3) _ fun e v G4 H4 pe s4 re => ?_
          have I4 := s4.inn I3
          have st4 := st3.trans s4
          have gD4 : G4 D = none := s4.d D (by rw [hx3]; exact fun z => nomatch z) (by rw [hx3]; exact fun _ z => nomatch z) gD3
          have hx4 : H4 D = some (.lst xs) := s4.h D _ noD hx3
          have rs4 : Reps c.K G4 es xs := rs3.mono s4.g
          have hl := hcr.len
          have hz' := hz ds pl
          rw [List.length_take] at hl
          refine ⟨xs, hx4, Nat.lt_of_le_of_lt (by rw [rs4.len]; omega : xs.length ≤ 50000) (by decide), G4, xs ++ [v], es ++ [e], by rw [take_more hget]; exact hcr.yes pb pe, ?_, ?_, gD4, upd_same, rs4.app (Reps.one re)⟩
          · exact ⟨st4.g, st4.i.out gD4, c.W.wr H4 D _ _ st4.ok noD hx4 (fun φ z => nomatch z), fun a o n q => by rw [upd_ne (ne_of_none q hD)]; exact st4.h a o n q, st4.d⟩
          · exact ⟨I4.ex.out gD4, c.W.wr H4 D _ _ st4.ok noD hx4 (fun φ z => nomatch z), I4.no, I4.nd, fun x hx => by
              obtain ⟨g1, n1, o1, h1, r1⟩ := I4.cell x hx
              obtain ⟨_, _, o0, h0, _⟩ := I1.cell x hx
              refine ⟨g1, n1, o1, ?_, r1⟩
              rw [upd_ne (ne_of_none h0 hD)]; exact h1⟩
    · have ei : i = ds.length := by omega
      subst ei
      rw [List.take_length] at hcr
      exact .inl ⟨(js cs G' H' st.g I' _).1 rfl, k es D xs G' H' ⟨ds, pl, hcr⟩ hD0 gD noD (s1.trans st) hx rs⟩
end
end DV

set_option autoImplicit false
set_option linter.all false
set_option maxRecDepth 100000
set_option maxHeartbeats 1000000
namespace DV
open PySem L2

/-! ### promises over data -/
/-- from data as the def makes data ds', or raises -/
def FSp (K : PySem.W.Frag) (pre : Wld → List Dat → Prop) (post : List Dat → Dat → Prop) (xp : List Dat → Exc → Prop) : Sp := fun vs H Q E =>
  ∃ (W : Wld) (G : Hp) (ds : List Dat), Inn K W [] G H ∧ Reps K G ds vs ∧ pre W ds ∧ (∀ d v G2 H2, post ds d → Step W G H G2 H2 → Rep K G2 d v → Q v H2) ∧ ∀ x cls dd G2 H2, xp ds x → Step W G H G2 H2 → RepX K G2 H2 x cls dd → E cls dd H2
/-- a pure one: f its value -/
abbrev noX : List Dat → Exc → Prop := fun _ _ => False

theorem sig_start {K : PySem.W.Frag} {G : Hp} {N : List Str} {ds : List Dat} {vs : List V} (r : Reps K G ds vs) : Sig K G (L2.start N vs) (ds.map some ++ List.replicate (N.length - ds.length) none) := by
  unfold L2.start
  rw [r.len]
  refine ⟨by simp [r.len], fun i d h => ?_⟩
  by_cases l : i < ds.length
  · rw [List.getElem?_append_left (by simpa using l), List.getElem?_map] at h
    rw [List.getElem?_append_left (by simpa [r.len] using l), List.getElem?_map]
    cases e : ds[i]? with
    | none => rw [e] at h; cases h
    | some d' =>
      rw [e] at h
      cases h
      obtain ⟨v, h1, h2⟩ := r.get e
      exact ⟨v, by rw [h1]; rfl, h2⟩
  · rw [List.getElem?_append_right (by simpa using Nat.le_of_not_lt l), List.length_map, List.getElem?_replicate] at h
    split at h <;> cases h
/-- a def's body: from what its statements do -/
theorem FSp.body {K : PySem.W.Frag} {pre : Wld → List Dat → Prop} {post : List Dat → Dat → Prop} {xp : List Dat → Exc → Prop} {N : List Str} {t : TS} {vs : List V} {H : Hp} {Q : VK} {E : XK} (h : FSp K pre post xp vs H Q E)
    (b : ∀ W ds, pre W ds → STS ⟨K, W, E, xp ds⟩ [] (ds.map some ++ List.replicate (N.length - ds.length) none) t { ret := post ds, nx := fun _ _ => post ds .non }) : t { nx := fun _ H' => Q .non H', rt := Q } (L2.start N vs) H := by
  obtain ⟨W, G, ds, I, r, p, q, x⟩ := h
  refine b W ds p G G H (L2.start N vs) G H _ ⟨Ex.refl _, Step.refl I, I, fun _ h => nomatch h⟩ (sig_start r) (fun e cls dd G2 H2 hx s2 hr => x e cls dd G2 H2 hx s2 hr) ⟨fun d v G2 H2 pd s2 rd => q d v G2 H2 pd s2 rd, fun cs Δ σ G' H' pd cu s => q .non .non G' H' pd cu.st rfl, fun _ _ _ _ _ z => z.elim, fun _ _ _ _ _ z => z.elim⟩
theorem FSp.len {K : PySem.W.Frag} {pre : Wld → List Dat → Prop} {post : List Dat → Dat → Prop} {xp : List Dat → Exc → Prop} {n : Nat} (hn : ∀ W ds, pre W ds → ds.length = n) : ∀ vs H Q E, FSp K pre post xp vs H Q E → vs.length = n := fun vs H Q E ⟨W, G, ds, I, r, p, _⟩ => r.len.trans (hn W ds p)
section
variable {c : Ct} {cs cs' : Cells} {Δ Δ' : Sts} {te ta tb : TE} {tr tk : TA} {P : Dat → Prop} {d a b : Dat} {ds : List Dat} {pre : Wld → List Dat → Prop} {post : List Dat → Dat → Prop} {xp : List Dat → Exc → Prop} {PA : List Dat → Prop}
/-- the callee, by values -/
theorem sp_run {E : XK} {G H : Hp} {vs : List V} {Q : VK} (I : Inn c.K c.W cs G H) (R : Raises c G H) (r : Reps c.K G ds vs) (hp : pre c.W ds) (hx : (c.E = E ∧ ∀ x, xp ds x → c.X x) ∨ ∀ x, ¬ xp ds x) (q : ∀ d v G2 H2, post ds d → Step c.W G H G2 H2 → Rep c.K G2 d v → Q v H2) :
    FSp c.K pre post xp vs H Q E := by
  refine ⟨c.W, G, ds, I.nil, r, hp, q, fun x cls dd G2 H2 h s2 hr => ?_⟩
  rcases hx with ⟨e, hx⟩ | hx
  · exact e ▸ R x cls dd G2 H2 (hx x h) s2 hr
  · exact (hx x h).elim
theorem evp_call {E : XK} {dvs : List V} {dds : List Dat} (hd : ∀ G, Reps c.K G dds dvs) (ha : EVA c cs Δ tr PA) (hp : ∀ ds, PA ds → pre c.W (ds ++ dds)) (hx : ∀ ds, PA ds → (c.E = E ∧ ∀ x, xp (ds ++ dds) x → c.X x) ∨ ∀ x, ¬ xp (ds ++ dds) x) (hq : ∀ ds d, PA ds → post (ds ++ dds) d → P d) :
    EVP c cs Δ (tCall (FSp c.K pre post xp) dvs E tr) P := fun σ G H s I R Q k =>
  ha σ G H s I R _ fun ds vs G1 H1 pa s1 rs => sp_run (s1.inn I) (R.on s1) (rs.app (hd G1)) (hp ds pa) (hx ds pa) fun d v G2 H2 pd s2 => k d v G2 H2 (hq ds d pa pd) (s1.trans s2)
/-- arguments known, no defaults -/
theorem ev_call {E : XK} (ha : EVL c cs Δ tr ds) (hp : pre c.W ds) (hx : (c.E = E ∧ ∀ x, xp ds x → c.X x) ∨ ∀ x, ¬ xp ds x) (hq : ∀ d, post ds d → P d) : EVP c cs Δ (tCall (FSp c.K pre post xp) [] E tr) P :=
  evp_call (dds := []) (fun G => rfl) ha (fun _ e => by subst e; rw [List.append_nil]; exact hp) (fun _ e => by subst e; rw [List.append_nil]; exact hx) fun _ d e h => by subst e; rw [List.append_nil] at h; exact hq d h
theorem ev_callD {E : XK} {dvs : List V} {dds : List Dat} (hd : ∀ G, Reps c.K G dds dvs) (ha : EVL c cs Δ tr ds) (hp : pre c.W (ds ++ dds)) (hx : (c.E = E ∧ ∀ x, xp (ds ++ dds) x → c.X x) ∨ ∀ x, ¬ xp (ds ++ dds) x) (hq : ∀ d, post (ds ++ dds) d → P d) : EVP c cs Δ (tCall (FSp c.K pre post xp) dvs E tr) P :=
  evp_call hd ha (fun _ e => by subst e; exact hp) (fun _ e => by subst e; exact hx) fun _ d e h => by subst e; exact hq d h
/-- f(e, .., k = v, ..) -/
theorem ev_callN {E : XK} {n m : Nat} {gV : List V → List V → List V} {es fs : List Dat} (ha : EVL c cs Δ tr es) (hk : EVL c cs Δ tk fs) (h1 : es.length = n) (h2 : fs.length = m) (hg : ∀ G vs zs, Reps c.K G es vs → Reps c.K G fs zs → Reps c.K G ds (gV vs zs)) (hp : pre c.W ds)
    (hx : (c.E = E ∧ ∀ x, xp ds x → c.X x) ∨ ∀ x, ¬ xp ds x) (hq : ∀ d, post ds d → P d) : EVP c cs Δ (tCallN n m (FSp c.K pre post xp) gV E tr tk) P := fun σ G H s I R Q k =>
  ha σ G H s I R _ fun es' vs G1 H1 e1 s1 rs => hk σ G1 H1 (s.mono s1.g) (s1.inn I) (R.on s1) _ fun fs' zs G2 H2 e2 s2 rz => by
    subst e1 e2
    have rs2 := rs.mono s2.g
    refine ⟨by rw [rs.len, h1], by rw [rz.len, h2], ?_⟩
    exact sp_run (s2.inn (s1.inn I)) ((R.on s1).on s2) (hg G2 vs zs rs2 rz) hp hx fun d v G3 H3 pd s3 => k d v G3 H3 (hq d pd) ((s1.trans s2).trans s3)
/-- o.m(..) of an instance -/
theorem evp_meth {C : Addr} {m : Str} {E : XK} {fs : List Str} {Pf : List Dat → Prop} (ho : EVP c cs Δ ta fun d => ∃ es, d = .ins C fs es ∧ Pf es) (hm : m ∉ fs) (ha : ∀ es, Pf es → EVA c cs Δ tr PA) (hp : ∀ es ds, Pf es → PA ds → pre c.W (.ins C fs es :: ds))
    (hx : ∀ es ds, Pf es → PA ds → (c.E = E ∧ ∀ x, xp (.ins C fs es :: ds) x → c.X x) ∨ ∀ x, ¬ xp (.ins C fs es :: ds) x) (hq : ∀ es ds d, Pf es → PA ds → post (.ins C fs es :: ds) d → P d) : EVP c cs Δ (tMeth C m (FSp c.K pre post xp) [] E ta tr) P := fun σ G H s I R Q k =>
  ho σ G H s I R _ fun d v G1 H1 ⟨es, e, pf⟩ s1 rd => by
    subst e
    obtain ⟨a, dx, xs, rfl, hg, hl, rs⟩ := rd
    refine ⟨a, dx, _, rfl, s1.i _ _ hg, ?_, ?_⟩
    · cases q : (fs.zip xs).lookup m with
      | none => rfl
      | some v =>
        have := PySem.mem_of_lookup q
        exact absurd (List.of_mem_zip this).1 hm
    · refine ha es pf σ G1 H1 (s.mono s1.g) (s1.inn I) (R.on s1) _ fun ds vs G2 H2 pa s2 rv => ?_
      show FSp c.K pre post xp (V.ref a :: (vs ++ [])) H2 Q E
      rw [List.append_nil]
      exact sp_run (ds := .ins C fs es :: ds) (s2.inn (s1.inn I)) ((R.on s1).on s2) ⟨_, vs, rfl, ⟨a, dx, xs, rfl, s2.g _ _ hg, hl, rs.mono s2.g⟩, rv⟩ (hp es ds pf pa) (hx es ds pf pa) fun d v G3 H3 pd s3 => k d v G3 H3 (hq es ds d pf pa pd) ((s1.trans s2).trans s3)
theorem ev_meth {C : Addr} {m : Str} {E : XK} {fs : List Str} {es : List Dat} (ho : EVD c cs Δ ta (.ins C fs es)) (hm : m ∉ fs) (ha : EVL c cs Δ tr ds) (hp : pre c.W (.ins C fs es :: ds)) (hx : (c.E = E ∧ ∀ x, xp (.ins C fs es :: ds) x → c.X x) ∨ ∀ x, ¬ xp (.ins C fs es :: ds) x)
    (hq : ∀ d, post (.ins C fs es :: ds) d → P d) : EVP c cs Δ (tMeth C m (FSp c.K pre post xp) [] E ta tr) P :=
  evp_meth (Pf := fun x => x = es) (PA := fun x => x = ds) (ho.imp fun d e => ⟨es, e, rfl⟩) hm (fun _ _ => ha) (fun _ _ e1 e2 => by subst e1 e2; exact hp) (fun _ _ e1 e2 => by subst e1 e2; exact hx) fun _ _ d e1 e2 h => by subst e1 e2; exact hq d h
/-- e.f, a property -/
theorem ev_prop {C : Addr} {E : XK} {fs : List Str} {es : List Dat} (ho : EVD c cs Δ ta (.ins C fs es)) (hp : pre c.W [.ins C fs es]) (hx : ∀ x, ¬ xp [.ins C fs es] x) (hq : ∀ d, post [.ins C fs es] d → P d) : EVP c cs Δ (tProp C (FSp c.K pre post xp) [] E ta) P := fun σ G H s I R Q k =>
  ho σ G H s I R _ fun d v G1 H1 e s1 rd => by
    subst e
    obtain ⟨a, dx, xs, rfl, hg, hl, rs⟩ := rd
    refine ⟨a, dx, _, rfl, s1.i _ _ hg, ?_⟩
    exact sp_run (ds := [.ins C fs es]) (s1.inn I) (R.on s1) (Reps.one ⟨a, dx, xs, rfl, hg, hl, rs⟩) hp (.inr hx) fun d v G3 H3 pd s3 => k d v G3 H3 (hq d pd) (s1.trans s3)
/-- e.m(..), e a class, m a classmethod -/
theorem ev_cmeth {C : Addr} {E : XK} (ho : EVD c cs Δ ta (.obj (.ref C))) (ha : EVL c cs Δ tr ds) (hp : pre c.W (.obj (.ref C) :: ds)) (hx : (c.E = E ∧ ∀ x, xp (.obj (.ref C) :: ds) x → c.X x) ∨ ∀ x, ¬ xp (.obj (.ref C) :: ds) x)
    (hq : ∀ d, post (.obj (.ref C) :: ds) d → P d) : EVP c cs Δ (ClX.tCMeth C (FSp c.K pre post xp) E ta tr) P := fun σ G H s I R Q k =>
  ho σ G H s I R _ fun d v G1 H1 e s1 rd => by
    subst e
    refine ⟨rd, ha σ G1 H1 (s.mono s1.g) (s1.inn I) (R.on s1) _ fun ds' vs G2 H2 e2 s2 rv => ?_⟩
    subst e2
    exact sp_run (ds := .obj (.ref C) :: ds') (s2.inn (s1.inn I)) ((R.on s1).on s2) ⟨_, vs, rfl, rfl, rv⟩ hp hx fun d v G3 H3 pd s3 => k d v G3 H3 (hq d pd) ((s1.trans s2).trans s3)
/-- the place of a name -/
def ixOf (f : Str) : List Str → Option Nat
  | [] => none
  | g :: r => if g = f then some 0 else (ixOf f r).map (· + 1)
theorem ixOf_zip {f : Str} {v : V} : ∀ {fs : List Str} {xs : List V} {i : Nat}, ixOf f fs = some i → xs[i]? = some v → (fs.zip xs).lookup f = some v
  | [], xs, i, h, e => by cases h
  | g :: r, [], i, h, e => by simp at e
  | g :: r, x :: xs, i, h, e => by
    unfold ixOf at h
    by_cases q : g = f
    · rw [if_pos q] at h
      cases h
      simp at e
      subst q e
      simp [List.lookup]
    · rw [if_neg q] at h
      cases z : ixOf f r with
      | none => rw [z] at h; cases h
      | some j =>
        rw [z] at h
        cases h
        have := ixOf_zip z (by simpa using e : xs[j]? = some v)
        have q' : (f == g) = false := by simpa using fun e => q e.symm
        simp [List.lookup, q', this]
theorem ixOf_none {f : Str} : ∀ {fs : List Str} {xs : List V}, ixOf f fs = none → (fs.zip xs).lookup f = none
  | [], xs, h => by simp
  | g :: r, [], h => by simp
  | g :: r, x :: xs, h => by
    unfold ixOf at h
    by_cases q : g = f
    · rw [if_pos q] at h; cases h
    · rw [if_neg q] at h
      cases z : ixOf f r with
      | some j => rw [z] at h; cases h
      | none =>
        have := ixOf_none (xs := xs) z
        have q' : (f == g) = false := by simpa using fun e => q e.symm
        simp [List.lookup, q', this]
/-- e.f, an attribute -/
theorem ev_fld {C : Addr} {f : Str} {fs : List Str} {es : List Dat} {i : Nat} (hc : Cls c.K C) (hn : NoAttr c.K C f) (ho : EVD c cs Δ ta (.ins C fs es)) (hf : ixOf f fs = some i) (he : es[i]? = some d) : EVD c cs Δ (tFld c.K ta f) d := fun σ G H s I R Q k =>
  ho σ G H s I R _ fun d' v G1 H1 e s1 rd => by
    subst e
    obtain ⟨a, dx, xs, rfl, hg, hl, rs⟩ := rd
    obtain ⟨v, h1, h2⟩ := rs.get he
    exact ⟨a, C, dx, _, v, rfl, s1.i _ _ hg, hc, hn, ixOf_zip hf h1, k d v G1 H1 rfl s1 h2⟩
/-- .. of an instance that is a cell -/
theorem ev_fldC {C dx l : Addr} {f : Str} {fs : List Str} {es : List Dat} {i j : Nat} (hc : Cls c.K C) (hn : NoAttr c.K C f) (hi : Δ[j]? = some (some (.obj (.ref l)))) (hf : ixOf f fs = some i) (he : es[i]? = some d) : EVD c ((l, .ins C dx fs es) :: cs) Δ (tFld c.K (tVar j) f) d := fun σ G H s I R Q k => by
  obtain ⟨v0, h1, h2⟩ := s.at_ j _ hi
  obtain ⟨gl, no, o, ho, xs, e, hl, rs⟩ := I.cell _ List.mem_cons_self
  obtain ⟨v, h3, h4⟩ := rs.get he
  exact ⟨v0, h1, l, C, dx, _, v, h2, by rw [ho, e], hc, hn, ixOf_zip hf h3, k d v G H rfl (Step.refl I) h4⟩
/-! ### instances in the making -/
theorem putF_zip {f : Str} {v : V} : ∀ {fs : List Str} {xs : List V}, fs.length = xs.length → ixOf f fs = none → putF f v (fs.zip xs) = (fs ++ [f]).zip (xs ++ [v])
  | [], [], _, _ => rfl
  | g :: r, x :: xs, hl, h => by
    unfold ixOf at h
    by_cases q : g = f
    · rw [if_pos q] at h; cases h
    · rw [if_neg q] at h
      have z : ixOf f r = none := by
        cases z : ixOf f r with
        | some j => rw [z] at h; cases h
        | none => rfl
      have := putF_zip (v := v) (by simpa using hl : r.length = xs.length) z
      show putF f v ((g, x) :: r.zip xs) = _
      unfold putF
      rw [if_neg q, this]
      rfl
/-- self.f = e, f new -/
theorem q_put {u : TS} {p : Po} {C dx l : Addr} {f : Str} {fs : List Str} {es : List Dat} {j : Nat} (hc : Cls c.K C) (hn : NoAttr c.K C f) (hj : Δ[j]? = some (some (.obj (.ref l)))) (h : EVP c ((l, .ins C dx fs es) :: cs) Δ te P) (hf : ixOf f fs = none) (hz : fs.length < 1000)
    (k : ∀ d, P d → STS c ((l, .ins C dx (fs ++ [f]) (es ++ [d])) :: cs) Δ u p) : STS c ((l, .ins C dx fs es) :: cs) Δ (tSeq (sFld c.K (tVar j) te f) u) p := fun F G0 H0 σ G H D cu s R e =>
  h σ G H s cu.inn (R.on cu.st) _ fun d y G2 H2 pd s2 rd => by
    have cu2 := cu.on s2
    have s' := s.mono s2.g
    obtain ⟨v0, h1, h2⟩ := s'.at_ j _ hj
    obtain ⟨gl, no, o, ho, xs, eo, hl, rs⟩ := cu2.inn.cell _ List.mem_cons_self
    refine ⟨v0, h1, l, C, dx, _, h2, by rw [ho, eo], hc, hn, ?_, ?_⟩
    · rw [List.length_zip, hl, Nat.min_self, ← hl]; exact hz
    · exact k d pd F G0 H0 σ G2 _ D (cu2.wr (k' := .ins C dx (fs ++ [f]) (es ++ [d])) ⟨xs ++ [y], congrArg (HO.ins C dx) (putF_zip hl hf), by simp [hl], rs.app (Reps.one rd)⟩) s' R e
theorem s_put {p : Po} {C dx l : Addr} {f : Str} {fs : List Str} {es : List Dat} {j : Nat} (hc : Cls c.K C) (hn : NoAttr c.K C f) (hj : Δ[j]? = some (some (.obj (.ref l)))) (h : EVP c ((l, .ins C dx fs es) :: cs) Δ te P) (hf : ixOf f fs = none) (hz : fs.length < 1000)
    (k : ∀ d, P d → p.nx ((l, .ins C dx (fs ++ [f]) (es ++ [d])) :: cs) Δ) : STS c ((l, .ins C dx fs es) :: cs) Δ (sFld c.K (tVar j) te f) p := fun F G0 H0 σ G H D cu s R e =>
  q_put (u := tNext) hc hn hj h hf hz (fun d pd => s_next (k d pd) (Le.refl _)) F G0 H0 σ G H D cu s R e
/-- __init__'s promise: from data the fields -/
def ISp (K : PySem.W.Frag) (C : Addr) (pre : Wld → List Dat → Prop) (fs : List Str) (post : List Dat → List Dat → Prop) (xp : List Dat → Exc → Prop) : Sp := fun vs H Q E =>
  ∃ (W : Wld) (G H0 : Hp) (ds : List Dat) (x dx : Addr) (ws : List V), vs = .ref x :: ws ∧ H = upd (upd H0 dx (.own x)) x (.ins C dx []) ∧ H0 x = none ∧ H0 dx = none ∧ dx ≠ x ∧ Inn K W [] G H0 ∧ Reps K G ds ws ∧ pre W ds ∧
    (∀ es xs G2 H2, post ds es → Step W G H0 G2 H2 → G2 x = none → H2 x = some (.ins C dx (fs.zip xs)) → fs.length = xs.length → Reps K G2 es xs → Q .non H2) ∧ ∀ e cls dd G2 H2, xp ds e → Step W G H0 G2 H2 → RepX K G2 H2 e cls dd → E cls dd H2
theorem ISp.len {K : PySem.W.Frag} {C : Addr} {pre : Wld → List Dat → Prop} {fs : List Str} {post : List Dat → List Dat → Prop} {xp : List Dat → Exc → Prop} {n : Nat} (hn : ∀ W ds, pre W ds → ds.length + 1 = n) : ∀ vs H Q E, ISp K C pre fs post xp vs H Q E → vs.length = n := fun vs H Q E ⟨W, G, H0, ds, x, dx, ws, e, _, _, _, _, _, r, p, _⟩ => by
  rw [e, List.length_cons, r.len]; exact hn W ds p
theorem ISp.body {K : PySem.W.Frag} {C : Addr} {pre : Wld → List Dat → Prop} {fs : List Str} {post : List Dat → List Dat → Prop} {xp : List Dat → Exc → Prop} {N : List Str} {t : TS} {vs : List V} {H : Hp} {Q : VK} {E : XK} (h : ISp K C pre fs post xp vs H Q E)
    (b : ∀ W ds x dx, pre W ds → STS ⟨K, W, E, xp ds⟩ [(x, .ins C dx [] [])] ((some (.obj (.ref x)) :: ds.map some) ++ List.replicate (N.length - (ds.length + 1)) none) t { ret := fun _ => False, nx := fun cs _ => ∃ es, cs = [(x, .ins C dx fs es)] ∧ post ds es }) : t { nx := fun _ H' => Q .non H', rt := Q } (L2.start N vs) H := by
  obtain ⟨W, G, H0, ds, x, dx, ws, rfl, rfl, hx, hd, ne, I, r, p, q, xq⟩ := h
  have s1 := Step.aside I (o := .own x) hd
  have I1 := s1.inn I
  have hx1 : upd H0 dx (.own x) x = none := by rw [upd_ne ne.symm]; exact hx
  have s2 := Step.aside I1 (o := .ins C dx []) hx1
  have st := s1.trans s2
  have I2 := s2.inn I1
  have gx : G x = none := I.ex.none_of hx
  have nx : ¬ W.own x := fun z => W.has _ I.ok x z hx
  have sg : Sig K G (L2.start N (.ref x :: ws)) ((some (.obj (.ref x)) :: ds.map some) ++ List.replicate (N.length - (ds.length + 1)) none) :=
    sig_start (N := N) (ds := .obj (.ref x) :: ds) ⟨_, ws, rfl, rfl, r⟩
  refine b W ds x dx p G G H0 _ G _ _ ⟨Ex.refl _, st, ⟨I2.ex, I2.ok, I2.no, by simp, fun y hy => ?_⟩, fun y hy => ?_⟩ sg (fun e cls dd G2 H2 hx s2 hr => xq e cls dd G2 H2 hx s2 hr) ⟨fun _ _ _ _ z => z.elim, fun cs Δ σ G' H' ⟨es, ec, pe⟩ cu s => ?_, fun _ _ _ _ _ z => z.elim, fun _ _ _ _ _ z => z.elim⟩
  · rw [List.mem_singleton] at hy
    subst hy
    exact ⟨gx, nx, _, upd_same, [], rfl, rfl, rfl⟩
  · rw [List.mem_singleton] at hy
    subst hy
    exact hx
  · subst ec
    obtain ⟨g1, n1, o, ho, xs, eo, hl, rs⟩ := cu.inn.cell _ List.mem_cons_self
    exact q es xs G' H' pe cu.st g1 (by rw [ho, eo]) hl rs
/-- C(..) -/
theorem mk_run {C : Addr} {fs : List Str} {postI : List Dat → List Dat → Prop} {E : XK} {G H : Hp} {ws : List V} {x dx : Addr} {Q : VK} (I : Inn c.K c.W cs G H) (R : Raises c G H) (r : Reps c.K G ds ws) (hp : pre c.W ds) (hxp : (c.E = E ∧ ∀ x, xp ds x → c.X x) ∨ ∀ x, ¬ xp ds x)
    (hx : H x = none) (hd : H dx = none) (ne : dx ≠ x) (q : ∀ d v G2 H2, (∃ es, d = .ins C fs es ∧ postI ds es) → Step c.W G H G2 H2 → Rep c.K G2 d v → Q v H2) :
    ISp c.K C pre fs postI xp (.ref x :: ws) (upd (upd H dx (.own x)) x (.ins C dx [])) (fun v H2 => v = .non ∧ Q (.ref x) H2) E := by
  refine ⟨c.W, G, H, ds, x, dx, ws, rfl, rfl, hx, hd, ne, I.nil, r, hp, fun es xs G2 H2 pe s2 gx h2 hl rs => ⟨rfl, ?_⟩, fun e cls dd G2 H2 h s2 hr => ?_⟩
  · have e : Ex G2 (upd G2 x (.ins C dx (fs.zip xs))) := Ex.new gx
    refine q (.ins C fs es) _ (upd G2 x (.ins C dx (fs.zip xs))) H2 ⟨es, rfl, pe⟩ ⟨s2.g.trans e, fun a u z => ?_, s2.ok, s2.h, fun a ha na ga => ?_⟩ ⟨x, dx, xs, rfl, upd_same, hl, rs.mono e⟩
    · by_cases w : a = x
      · subst w; rw [upd_same] at z; cases z; exact h2
      · rw [upd_ne w] at z; exact s2.i a u z
    · rw [upd_ne (fun w => ha (by rw [w]; exact hx))]
      exact s2.d a ha na ga
  · rcases hxp with ⟨e, hxp⟩ | hxp
    · exact e ▸ R _ cls dd G2 H2 (hxp _ h) s2 hr
    · exact (hxp _ h).elim
theorem evp_make {C : Addr} {fs : List Str} {postI : List Dat → List Dat → Prop} {E : XK} {dvs : List V} {dds : List Dat} (hd : ∀ G, Reps c.K G dds dvs) (ha : EVA c cs Δ tr PA) (hp : ∀ ds, PA ds → pre c.W (ds ++ dds)) (hx : ∀ ds, PA ds → (c.E = E ∧ ∀ x, xp (ds ++ dds) x → c.X x) ∨ ∀ x, ¬ xp (ds ++ dds) x)
    (hq : ∀ ds es, PA ds → postI (ds ++ dds) es → P (.ins C fs es)) : EVP c cs Δ (tMake C (ISp c.K C pre fs postI xp) dvs E tr) P := fun σ G H s I R Q k =>
  ha σ G H s I R _ fun ds vs G1 H1 pa s1 rs x dx h1 h2 ne => mk_run (s1.inn I) (R.on s1) (rs.app (hd G1)) (hp ds pa) (hx ds pa) h1 h2 ne fun d v G2 H2 ⟨es, e, pe⟩ s2 => by
    subst e
    exact k _ v G2 H2 (hq ds es pa pe) (s1.trans s2)
theorem ev_make {C : Addr} {fs : List Str} {postI : List Dat → List Dat → Prop} {E : XK} {dvs : List V} {dds : List Dat} (hd : ∀ G, Reps c.K G dds dvs) (ha : EVL c cs Δ tr ds) (hp : pre c.W (ds ++ dds)) (hx : (c.E = E ∧ ∀ x, xp (ds ++ dds) x → c.X x) ∨ ∀ x, ¬ xp (ds ++ dds) x)
    (hq : ∀ es, postI (ds ++ dds) es → P (.ins C fs es)) : EVP c cs Δ (tMake C (ISp c.K C pre fs postI xp) dvs E tr) P :=
  evp_make hd ha (fun _ e => by subst e; exact hp) (fun _ e => by subst e; exact hx) fun _ es e h => by subst e; exact hq es h
theorem ev_makeN {C : Addr} {fs : List Str} {postI : List Dat → List Dat → Prop} {E : XK} {n m : Nat} {gV : List V → List V → List V} {es1 fs1 : List Dat} (ha : EVL c cs Δ tr es1) (hk : EVL c cs Δ tk fs1) (h1 : es1.length = n) (h2 : fs1.length = m)
    (hg : ∀ G x vs zs, Reps c.K G es1 vs → Reps c.K G fs1 zs → ∃ ws, gV (.ref x :: vs) zs = .ref x :: ws ∧ Reps c.K G ds ws) (hp : pre c.W ds) (hx : (c.E = E ∧ ∀ x, xp ds x → c.X x) ∨ ∀ x, ¬ xp ds x) (hq : ∀ es, postI ds es → P (.ins C fs es)) :
    EVP c cs Δ (tMakeN C n m (ISp c.K C pre fs postI xp) gV E tr tk) P := fun σ G H s I R Q k =>
  ha σ G H s I R _ fun es' vs G1 H1 e1 s1 rs => hk σ G1 H1 (s.mono s1.g) (s1.inn I) (R.on s1) _ fun fs' zs G2 H2 e2 s2 rz => by
    subst e1 e2
    refine ⟨by rw [rs.len, h1], by rw [rz.len, h2], fun x dx hx0 hd0 ne => ?_⟩
    obtain ⟨ws, ew, rw_⟩ := hg G2 x vs zs (rs.mono s2.g) rz
    rw [ew]
    exact mk_run (s2.inn (s1.inn I)) ((R.on s1).on s2) rw_ hp hx hx0 hd0 ne fun d v G3 H3 ⟨es, e, pe⟩ s3 => by
      subst e
      exact k _ v G3 H3 (hq es pe) ((s1.trans s2).trans s3)
end
end DV

set_option autoImplicit false
set_option linter.all false
set_option maxRecDepth 100000
set_option maxHeartbeats 2000000
/-! Promises of defs that are called while no repr is under way (guards known): the layer's calls once more, with that known. -/
namespace DV
open PySem PySem.Spec PyProof.Rows L2

/-- room, and no guard under way -/
structure RoomG (k : Nat) (A : Around) : Prop where
  r : Room k A
  g : A.guards = some []
theorem RoomG.le {j k : Nat} {A : Around} (h : RoomG k A) (l : j ≤ k) : RoomG j A := ⟨h.r.mono l, h.g⟩
theorem RoomG.in1 {k : Nat} {A : Around} (h : RoomG (k + 1) A) : RoomG k A.in1 := ⟨h.r.in1, h.g⟩
theorem guards_make {A : Around} {a : Args} : (A.under (.builtin "type.__call__" a)).guards = A.guards := by
  have e : (Code.builtin "type.__call__" a).guards = [] := by
    have q : (Code.builtin "type.__call__" a).isGuard = false := by
      show guardIds.contains "type.__call__" = false
      decide +kernel
    unfold Code.guards
    rw [q]; rfl
  show pushGuards (Code.builtin "type.__call__" a).guards A.guards = A.guards
  rw [e]; rfl
theorem RoomG.make {k : Nat} {A : Around} (h : RoomG (k + 1) A) (C : Addr) (us : List Value) (kw : List (Str × Value)) : RoomG k (A.under (.builtin "type.__call__" ⟨.ref C :: us, kw⟩)) := ⟨h.r.make C us kw, guards_make.trans h.g⟩

/-- a def's promise: FnOk's, where no guard is under way -/
structure FnG (P : Program) (w : World) (K : PySem.W.Frag) (mg : Str → Option Value) (base : Heap) (CX : CXT) (k : Nat) (f : Addr) (fd : FuncData) (ps : List Str) (sp : Sp) : Prop where
  len : ∀ vs H Q E, sp vs H Q E → vs.length = ps.length
  go : ∀ (A : Around) (fr : List Env) (s : Shared) (H : Hp) (ar : Args) (us : List Value) (vs : List V) (Q : VK) (E : XK), RoomG k A → Env0 P w K mg base A fr s H → BindsTo s fd ar (ps.zip us) → Vals vs us → sp vs H Q E →
    codeAny (model P w) A (.call (.ref f) ar) (CR CX fr P w H s Q E) s
theorem FnG.of {P : Program} {w : World} {K : PySem.W.Frag} {mg : Str → Option Value} {base : Heap} {CX : CXT} {k : Nat} {f : Addr} {fd : FuncData} {ps : List Str} {sp : Sp} (F : FnOk P w K mg base CX k f fd ps sp) : FnG P w K mg base CX k f fd ps sp :=
  ⟨F.len, fun A fr s H ar us vs Q E h => F.run A fr s H ar us vs Q E h.r⟩

section
variable {P : Program} {w : World} {K : PySem.W.Frag} {mg : Str → Option Value} {base : Heap} {CX : CXT} {x qual : Str} {params : Arguments} {body : List Stmt} {scope : Scope} {dvs : List V} {kws : List (Str × V)} {f : Addr} {fd : FuncData} {N ps : List Str} {k : Nat} {sp : Sp}
/-- a def of the text, by its body -/
theorem fn_g (F : FunD K x qual params body scope dvs kws f fd) (S : FnScope N ps scope) (len : ∀ vs H Q E, sp vs H Q E → vs.length = ps.length)
    (hb : ∀ (cdv : Value) (A : Around) (fr : List Env) (s : Shared) (H : Hp) (vs : List V) (Q : VK) (E : XK), RoomG k (A.deeper (envOfC qual scope s.heap.objs.size f cdv)) → sp vs H Q E →
      ∃ t, PSs (cxOf CX P w K mg base N qual scope f cdv A fr s H E) body t ∧ t { nx := fun _ H' => Q .non H', rt := Q } (L2.start N vs) H) : FnG P w K mg base CX (k + 1) f fd ps sp := by
  obtain ⟨oc, od, dV, kV, doc, pm, an, cdv, ct, osl, rfl, lk, hcd, _, _⟩ := F.ex
  refine ⟨len, fun A fr s H ar us vs Q E hR e0 bd rv hs => ?_⟩
  have up : ∀ b o, base.get? b = some o → s.heap.get? b = some o := fun b o e => (e0.bs b o e).1
  have inK : K.In s.heap := e0.mod.kin.keeps up
  have nl := e0.mod.nolimit.keeps up
  have kinds : ∀ z ∈ ps.zip us, scope.names.lookup z.1 = some .local ∨ (scope.names.lookup z.1 = some .cell ∧ ((cellsFrom (s.heap.objs.size + 1) scope.names []).lookup z.1).isSome = true) := by
    rintro ⟨n, v⟩ hz
    rcases S.par n (List.of_mem_zip hz).1 with a | a
    · exact Or.inl a
    · exact Or.inr ⟨a, PySem.W.cellsFrom_some _ _ _ (Or.inl a)⟩
  have hlen := len _ _ _ _ hs
  apply codeAny_call_function hR.r.depth (inK _ _ lk) rfl S.co S.gen rfl (PySem.W.codeRec_of inK hcd)
  apply bd
  apply wpAny_newFunctionEnv_cells S.kind kinds
  rintro _ rfl s1 ic
  refine ⟨nl.keeps ic.toInCall.keep, codeAny_func ?_⟩
  have hR' : RoomG k (A.deeper (envOfC qual scope s.heap.objs.size f cdv)) := ⟨hR.r.deeper _, hR.g⟩
  obtain ⟨t, pt, qt⟩ := hb cdv A fr s H vs Q E hR' hs
  have J0 := inv_start (CX := CX) (P := P) (w := w) (E := E) S hR.r.hd e0 hlen rv ic
  refine wpAny_mono (pt.run [] s1 _ H _ J0 qt) ?_ fun _ _ z => z
  intro fl s' z
  cases fl with
  | next =>
    obtain ⟨σ', H', J, q⟩ := z
    exact ⟨.non, H', J.os, J.bare, J.base, J.hok, rfl, q⟩
  | ret u =>
    obtain ⟨v, σ', H', J, r, q⟩ := z
    exact ⟨v, H', J.os, J.bare, J.base, J.hok, r, q⟩
  | brk =>
    obtain ⟨_, _, _, q⟩ := z
    exact q.elim
  | cont =>
    obtain ⟨_, _, _, q⟩ := z
    exact q.elim
/-- how written arguments and keywords are bound where no default stands -/
theorem kb_plain (F : FunD K x qual params body scope [] kws f fd) (n : Nat) (ks : List Str) (g : {α : Type} → List α → List α → List α) (hrel : ∀ {vs zs : List V} {us ws : List Value}, Vals vs us → Vals zs ws → Vals (g vs zs) (g us ws))
    (h : ∀ (kV doc pm : Value) (an : Option Addr) (cdv ct : Value) (us ws : List Value), us.length = n → ws.length = ks.length → bindArgs (PySem.W.fnOf x qual params body scope .none kV doc pm an cdv ct) ⟨us, ks.zip ws⟩ = pure (ps.zip (g us ws))) :
    KBn K fd ps n ks (fun us ws => g us ws) (fun vs zs => g vs zs) := by
  obtain ⟨oc, od, dV, kV, doc, pm, an, cdv, ct, osl, rfl, lk, hcd, hD, hK⟩ := F.ex
  have e : dV = .none := by
    rcases hD with ⟨_, e⟩ | ⟨e, _⟩
    · exact e
    · exact absurd rfl e
  subst e
  exact ⟨fun s us ws _ l1 l2 => .of_eq (h kV doc pm an cdv ct us ws l1 l2), fun a b => hrel a b⟩
end

/-! ### calling -/
/-- how a call comes back -/
abbrev OutG (X : Cx) (pins : List (Addr × Obj)) (σ : L2.St) (Q : VK) : Result → Shared → Prop := fun r s' => match r with
  | .ok (.ret v) => EP X pins σ Q v s'
  | .ok _ => False
  | .error e => X.xe e s'
/-- what calling a value with written arguments and keywords ks does -/
def CanG (X : Cx) (f : Value) (ks : List Str) (r : List V → List V → Hp → VK → Prop) : Prop :=
  ∀ (pins : List (Addr × Obj)) (σ : L2.St) (H : Hp) (s : Shared) (Q : VK) (us ws : List Value) (vs zs : List V), Inv X pins σ H s → Vals vs us → Vals zs ws → r vs zs H Q →
    codeAny (model X.prog X.w) X.A (.call f ⟨us, ks.zip ws⟩) (OutG X pins σ Q) s
/-- the reading of a def's call, of a class's -/
def rFn (n m : Nat) (sp : Sp) (gV : List V → List V → List V) (E : XK) : List V → List V → Hp → VK → Prop := fun vs zs H Q => vs.length = n ∧ zs.length = m ∧ sp (gV vs zs) H Q E
def rMk (C : Addr) (n m : Nat) (sp : Sp) (gV : List V → List V → List V) (E : XK) : List V → List V → Hp → VK → Prop := fun vs zs H Q => vs.length = n ∧ zs.length = m ∧
  ∀ x dx, H x = none → H dx = none → dx ≠ x → sp (gV (.ref x :: vs) zs) (upd (upd H dx (.own x)) x (.ins C dx [])) (fun v H2 => v = .non ∧ Q (.ref x) H2) E
section
variable {X : Cx} {CX : CXT} {k n : Nat} {f C : Addr} {fd : FuncData} {ps ks : List Str} {sp : Sp} {E : XK} {g : List Value → List Value → List Value} {gV : List V → List V → List V}
theorem backG {pins : List (Addr × Obj)} {σ : L2.St} {H : Hp} {s s' : Shared} {Q : VK} {fl : Flow} (I : Inv X pins σ H s) (h : CR CX X.stack X.prog X.w H s Q E (.ok fl) s') : ∃ u, fl = .ret u ∧ EP X pins σ Q u s' := by
  cases fl with
  | ret u => exact ⟨u, rfl, I.after h⟩
  | next => exact h.elim
  | brk => exact h.elim
  | cont => exact h.elim
/-- a def -/
theorem can_fn (F : FnG X.prog X.w X.K X.mg X.base CX k f fd ps sp) (hr : RoomG k X.A) (hb : KBn X.K fd ps n ks g gV) (hx : Passes CX X E) : CanG X (.ref f) ks (rFn n ks.length sp gV E) := by
  rintro pins σ H s Q us ws vs zs I rv rz ⟨l1, l2, h⟩
  have b := hb.to s us ws I.kIn (rv.length.symm.trans l1) (rz.length.symm.trans l2)
  refine codeAny_mono (F.go X.A X.stack s H ⟨us, ks.zip ws⟩ _ _ Q E hr I.env0 b (hb.rel rv rz) h) ?_
  intro r s' z
  cases r with
  | error e => exact hx pins σ H s e s' I z
  | ok fl =>
    obtain ⟨u, e, q⟩ := backG I z
    subst e
    exact q
/-- a class: a new instance, then its __init__ -/
theorem can_make (M : Mk X.K C f) (F : FnG X.prog X.w X.K X.mg X.base CX k f fd ps sp) (hr : RoomG (k + 1) X.A) (hb : KBn X.K fd ps (n + 1) ks g gV) (hx : Passes CX X E) : CanG X (.ref C) ks (rMk C n ks.length sp gV E) := by
  rintro pins σ H s Q us ws vs zs I rv rz ⟨l1, l2, h⟩
  have hq := h (s.heap.objs.size + 1) s.heap.objs.size (I.hok.fresh (Nat.le_succ _)) (I.hok.fresh (Nat.le_refl _)) (Nat.ne_of_lt (Nat.lt_succ_self _))
  have J := Inv.made (C := C) I
  have rv' : Vals (V.ref (s.heap.objs.size + 1) :: vs) (Value.ref (s.heap.objs.size + 1) :: us) := .cons rfl rv
  have b := hb.to _ (Value.ref (s.heap.objs.size + 1) :: us) ws J.kIn (by rw [List.length_cons, ← rv.length, l1]) (rz.length.symm.trans l2)
  refine make_map (f := f) I.kIn M.makes M.init (beq_iff_eq.mp M.fn) ?_
  refine codeAny_mono (F.go _ X.stack _ _ ⟨Value.ref (s.heap.objs.size + 1) :: us, ks.zip ws⟩ _ _ _ E (hr.make C us _) (J.env0.make C us _) b (hb.rel rv' rz) hq) ?_
  intro r s' z
  cases r with
  | error e => exact hx pins σ _ _ e s' J z
  | ok fl =>
    obtain ⟨u, e, v, H', J', r, e2, q⟩ := backG J z
    subst e e2
    exact ⟨r, .ref (s.heap.objs.size + 1), H', J', rfl, q⟩
end

/-- the reading of f(e, .., k = v, ..) -/
def tG (r : List V → List V → Hp → VK → Prop) (t tk : TA) : TE := fun σ H Q => t σ H fun vs H1 => tk σ H1 fun zs H2 => r vs zs H2 Q
/-- .. of o.m(..), an instance's method -/
def tGM (C : Addr) (m : Str) (r : List V → List V → Hp → VK → Prop) (to : TE) (t tk : TA) : TE := fun σ H Q => to σ H fun x H1 => ∃ a dx fs, x = .ref a ∧ H1 a = some (.ins C dx fs) ∧ fs.lookup m = none ∧ t σ H1 fun vs H2 => tk σ H2 fun zs H3 => r (x :: vs) zs H3 Q
section
variable {X : Cx} {ks : List Str} {r : List V → List V → Hp → VK → Prop} {x m : Str} {f C g : Addr} {p pos apos : Pos} {e o : Expr} {es : List Expr} {kws : List Keyword} {t tk : TA} {to : TE}
/-- written arguments, then keywords -/
theorem kwG {pins : List (Addr × Obj)} {σ : L2.St} {H : Hp} {s : Shared} {Q : VK} {fv : Value} {vs : List V} {us : List Value} (c : CanG X fv ks r) (hkw : PK X kws tk) (hks : (backToKw pos (keywordEach kws X.env)).filterMap (·.1) = ks) (I : Inv X pins σ H s) (rv : Vals vs us) (h : tk σ H fun zs H2 => r vs zs H2 Q) :
    wpAny (model X.prog X.w) X.A (evalAll ((backToKw pos (keywordEach kws X.env)).map (·.2))) (fun vs s₂ => X.K.In s₂.heap ∧ wpAny (model X.prog X.w) X.A (call fv us (((backToKw pos (keywordEach kws X.env)).filterMap (·.1)).zip vs)) (EP X pins σ Q) X.xe s₂) X.xe s := by
  refine thn (hkw.run pos pins s σ H _ I h) ?_
  rintro ws s2 ⟨zs, H2, I2, rz, q⟩
  rw [hks]
  exact ⟨I2.kIn, wpAny_call (c pins σ H2 s2 Q us ws vs zs I2 rv rz q)⟩
/-- f(e, .., k = v, ..), f a def or a class of the module -/
theorem pe_g (hg : Gl X x) (hm : X.mg x = some (.ref f)) (hk : PySem.W.keepIn X.K (.ref f) = true) (c : CanG X (.ref f) ks r) (ha : PA X (e :: es) t) (hkw : PK X kws tk)
    (hall : (backToKw pos (keywordEach kws X.env)).all (·.1.isSome) = true := by rfl) (hks : (backToKw pos (keywordEach kws X.env)).filterMap (·.1) = ks := by rfl) (hdb : (x == ("__debug__" : Str)) = false := by decide)
    (he : starEach (e :: es) X.env = (false, eval e X.env) :: starEach es X.env := by rfl) (hpl : ((backTo pos (starEach (e :: es) X.env)).any (·.1) || (backToKw pos (keywordEach kws X.env)).any (·.1.isNone)) = false := by rfl) :
    PE X (.Call (.Name x p) (e :: es) kws pos) (tG r t tk) := by
  constructor
  intro pins s σ H Q I h
  apply wpAny_Call_Name_kw
  apply ld_glob I hg hm _ hdb
  refine PySem.W.callWith_KW (h₀ := X.base) I.ok.mod.kin hk hall (thn (ha.run pos pins s σ H _ I h) ?_) hpl he
  rintro us s1 ⟨vs, H1, I1, rv, q⟩
  exact kwG c hkw hks I1 rv q
theorem pe_g0 (hg : Gl X x) (hm : X.mg x = some (.ref f)) (hk : PySem.W.keepIn X.K (.ref f) = true) (c : CanG X (.ref f) ks r) (hkw : PK X kws tk)
    (hall : (backToKw pos (keywordEach kws X.env)).all (·.1.isSome) = true := by rfl) (hks : (backToKw pos (keywordEach kws X.env)).filterMap (·.1) = ks := by rfl) (hdb : (x == ("__debug__" : Str)) = false := by decide)
    (hpl : ((backTo pos (starEach [] X.env)).any (·.1) || (backToKw pos (keywordEach kws X.env)).any (·.1.isNone)) = false := by rfl) :
    PE X (.Call (.Name x p) [] kws pos) (tG r tNil tk) := by
  constructor
  intro pins s σ H Q I h
  apply wpAny_Call_Name_kw
  apply ld_glob I hg hm _ hdb
  exact PySem.W.callWith_KW0 (h₀ := X.base) I.ok.mod.kin hk hall (kwG (us := []) c hkw hks I .nil h) hpl
/-- o.m(e, .., k = v, ..) -/
theorem pe_gm {pl : Sem Bool} (he : PE X o to) (hc : Cls X.K C) (hm : Meth X.K C m g) (c : CanG X (.ref g) ks r) (ha : PA X (e :: es) t) (hkw : PK X kws tk)
    (hall : (backToKw pos (keywordEach kws X.env)).all (·.1.isSome) = true := by rfl) (hks : (backToKw pos (keywordEach kws X.env)).filterMap (·.1) = ks := by rfl)
    (hst : starEach (e :: es) X.env = (false, eval e X.env) :: starEach es X.env := by rfl) (hpl : ((backTo pos (starEach (e :: es) X.env)).any (·.1) || (backToKw pos (keywordEach kws X.env)).any (·.1.isNone)) = false := by rfl)
    (ht : eval (.Call (.Attribute o m apos) (e :: es) kws pos) X.env = (eval o X.env >>= fun ov => standAt apos.atName >>= fun _ => holding [ov] (getMethod ov m pl) >>= fun p => callWith pos p.1 p.2 (backTo pos (starEach (e :: es) X.env)) (backToKw pos (keywordEach kws X.env))) := by rfl) :
    PE X (.Call (.Attribute o m apos) (e :: es) kws pos) (tGM C m r to t tk) := by
  constructor
  intro pins s σ H Q I h
  refine PySem.W.methodCall_KW (pl := pl) (thn (he.run pins s σ H _ I h) ?_) ht
  rintro u s1 ⟨x, H1, I1, rx, a, dx, fs, rfl, ea, l, q⟩
  cases (show u = Value.ref a from rx)
  apply getmeth_ok I1 ea hc hm l
  refine PySem.W.callWith_KW (h₀ := X.base) I.ok.mod.kin hm.kp hall (thn (ha.run pos pins s1 σ H1 _ I1 q) ?_) hpl hst
  rintro us s2 ⟨vs, H2, I2, rv, q2⟩
  have rv2 : Vals (V.ref a :: vs) (Value.ref a :: us) := .cons rfl rv
  exact kwG (us := [.ref a] ++ us) c hkw hks I2 rv2 q2
theorem pe_gm0 {pl : Sem Bool} (he : PE X o to) (hc : Cls X.K C) (hm : Meth X.K C m g) (c : CanG X (.ref g) ks r) (hkw : PK X kws tk)
    (hall : (backToKw pos (keywordEach kws X.env)).all (·.1.isSome) = true := by rfl) (hks : (backToKw pos (keywordEach kws X.env)).filterMap (·.1) = ks := by rfl)
    (hpl : ((backTo pos (starEach [] X.env)).any (·.1) || (backToKw pos (keywordEach kws X.env)).any (·.1.isNone)) = false := by rfl)
    (ht : eval (.Call (.Attribute o m apos) [] kws pos) X.env = (eval o X.env >>= fun ov => standAt apos.atName >>= fun _ => holding [ov] (getMethod ov m pl) >>= fun p => callWith pos p.1 p.2 (backTo pos (starEach [] X.env)) (backToKw pos (keywordEach kws X.env))) := by rfl) :
    PE X (.Call (.Attribute o m apos) [] kws pos) (tGM C m r to tNil tk) := by
  constructor
  intro pins s σ H Q I h
  refine PySem.W.methodCall_KW (pl := pl) (thn (he.run pins s σ H _ I h) ?_) ht
  rintro u s1 ⟨x, H1, I1, rx, a, dx, fs, rfl, ea, l, q⟩
  cases (show u = Value.ref a from rx)
  apply getmeth_ok I1 ea hc hm l
  have rv2 : Vals [V.ref a] [Value.ref a] := .cons rfl .nil
  exact PySem.W.callWith_KW0 (h₀ := X.base) I.ok.mod.kin hm.kp hall (kwG (us := [.ref a] ++ []) c hkw hks I1 rv2 q) hpl
end
end DV

set_option autoImplicit false
set_option linter.all false
set_option maxRecDepth 100000
set_option maxHeartbeats 2000000
namespace DV
open PySem PySem.Spec PyProof.Rows L2
/-! ### properties and classmethods, where no guard is under way -/
def tPropG (C : Addr) (sp : Sp) (E : XK) (to : TE) : TE := fun σ H Q => to σ H fun x H1 => ∃ a dx fs, x = .ref a ∧ H1 a = some (.ins C dx fs) ∧ sp [.ref a] H1 Q E
section
variable {X : Cx} {CX : CXT} {k : Nat} {C p g : Addr} {f m : Str} {mc : Value} {fd : FuncData} {ps ks : List Str} {sp : Sp} {E : XK} {e o : Expr} {es : List Expr} {kws : List Keyword} {pos apos : Pos} {to : TE} {t tk : TA} {r : List V → List V → Hp → VK → Prop} {gg : List Value → List Value → List Value} {gV : List V → List V → List V}
theorem pe_propG (he : PE X e to) (c : Cls X.K C) (hp : PropOf X.K C f p g) (F : FnG X.prog X.w X.K X.mg X.base CX k g fd ps sp) (hr : RoomG (k + 1) X.A) (hb : KBn X.K fd ps 1 [] gg gV) (h1 : ∀ v, gV [v] [] = [v]) (hx : Passes CX X.nox E) (hab : attributeBase e f X.env (eval e X.env) = eval e X.env := by rfl) :
    PE X (.Attribute e f pos) (tPropG C sp E to) := by
  constructor
  intro pins s σ H Q I h
  refine attr_of hab (thn (he.run pins s σ H _ I h) ?_)
  rintro u s1 ⟨x, H1, I1, rx, a, dx, fs, rfl, ea, q⟩
  cases (show u = Value.ref a from rx)
  obtain ⟨mA, O, _⟩ := ins_get I1.hok ea
  obtain ⟨od, J, _⟩ := O.look
  obtain ⟨rest, hrec⟩ := hp.rec_
  have J1 := I1.tok (s1.toks + 1)
  have isC : (PySem.W.clsIn X.K C).isSome = true := by
    obtain ⟨cd, h, _⟩ := PySem.W.any_some c.hd
    rw [h]; rfl
  have pg := PySem.W.plainGet_of (c.get f)
  refine PySem.W.get_bind I1.kIn J pg.1 (PySem.W.findObj_data isC hp.at_ hp.get hp.tak) pg.2 (wpAny_call (PySem.W.prop_get (s := { s1 with toks := s1.toks + 1 }) I1.kIn hrec ?_))
  have b := hb.to { s1 with toks := s1.toks + 1 } [.ref a] [] I1.kIn rfl rfl
  have rv1 : Vals [V.ref a] [Value.ref a] := .cons rfl .nil
  have rv := hb.rel rv1 (.nil (F := RelV))
  rw [h1] at rv
  refine codeAny_mono (F.go X.A.in1 X.stack { s1 with toks := s1.toks + 1 } H1 ⟨[.ref a], []⟩ _ _ Q E hr.in1 J1.env0.in1 b rv q) ?_
  intro r s' z
  cases r with
  | error er => exact (hx pins σ H1 _ er s' (J1.wish _) z).elim
  | ok fl =>
    obtain ⟨u, e2, v, H', J3, rv3, q3⟩ := backG J1 z
    subst e2
    show wpAny _ _ (handedOut u) _ _ _
    rw [PySem.W.handedOut_of (handed_of rv3)]
    exact wpAny_pure ⟨v, H', J3, rv3, q3⟩
/-- C.m(..), m a classmethod -/
def tGC (C : Addr) (r : List V → List V → Hp → VK → Prop) (to : TE) (t tk : TA) : TE := fun σ H Q => to σ H fun x H1 => x = .ref C ∧ t σ H1 fun vs H2 => tk σ H2 fun zs H3 => r (.ref C :: vs) zs H3 Q
theorem runC {pins : List (Addr × Obj)} {σ : L2.St} {H : Hp} {s : Shared} {q : Addr} {Q : VK} {us ws : List Value} {vs zs : List V} (cn : CanG X (.ref g) ks r) (I : Inv X ((q, PySem.W.methodObj (.ref g) (.ref C)) :: pins) σ H s) (rv : Vals vs us) (rz : Vals zs ws) (h : r (.ref C :: vs) zs H Q) :
    wpAny (model X.prog X.w) X.A (call (.ref q) us (ks.zip ws)) (EP X pins σ Q) X.xe s := by
  have rv2 : Vals (V.ref C :: vs) (Value.ref C :: us) := .cons rfl rv
  have z := cn _ σ H s Q (.ref C :: us) ws (.ref C :: vs) zs I rv2 rz h
  exact thn (Q := EP X ((q, PySem.W.methodObj (.ref g) (.ref C)) :: pins) σ Q) (wpAny_call (PySem.W.method_call (ClX.pin_at I) z)) fun _ _ y => ClX.unpinE y
theorem pe_gc {pl : Sem Bool} (he : PE X o to) (rd : ClX.CRead X.K C mc) (cm : ClX.CMet X.K C mc m p g) (c : CanG X (.ref g) ks r) (ha : PA X (e :: es) t) (hkw : PK X kws tk)
    (hall : (backToKw pos (keywordEach kws X.env)).all (·.1.isSome) = true := by rfl) (hks : (backToKw pos (keywordEach kws X.env)).filterMap (·.1) = ks := by rfl)
    (hst : starEach (e :: es) X.env = (false, eval e X.env) :: starEach es X.env := by rfl) (hpl : ((backTo pos (starEach (e :: es) X.env)).any (·.1) || (backToKw pos (keywordEach kws X.env)).any (·.1.isNone)) = false := by rfl)
    (ht : eval (.Call (.Attribute o m apos) (e :: es) kws pos) X.env = (eval o X.env >>= fun ov => standAt apos.atName >>= fun _ => holding [ov] (getMethod ov m pl) >>= fun p => callWith pos p.1 p.2 (backTo pos (starEach (e :: es) X.env)) (backToKw pos (keywordEach kws X.env))) := by rfl) :
    PE X (.Call (.Attribute o m apos) (e :: es) kws pos) (tGC C r to t tk) := by
  constructor
  intro pins s σ H Q I h
  refine PySem.W.methodCall_KW (pl := pl) (thn (he.run pins s σ H _ I h) ?_) ht
  rintro u s1 ⟨x, H1, I1, rx, rfl, q⟩
  cases (show u = Value.ref C from rx)
  refine ClX.getmethcm_ok I1 rd cm fun s2 I2 => ?_
  refine PySem.W.callWith_of hpl (PySem.W.keeps_M (K := X.K) (self := .ref C) cm.fi) (evalArgs_kw2 hall (thn (ha.run pos _ s2 σ H1 _ I2 q) ?_) hst)
  rintro us s3 ⟨vs, H3, I3, rv, q3⟩
  refine thn (hkw.run pos _ s3 σ H3 _ I3 q3) ?_
  rintro ws s4 ⟨zs, H4, I4, rz, q4⟩
  rw [hks]
  exact ⟨⟨ClX.pin_at I4, I4.kIn⟩, runC c I4 rv rz q4⟩
theorem pe_gc0 {pl : Sem Bool} (he : PE X o to) (rd : ClX.CRead X.K C mc) (cm : ClX.CMet X.K C mc m p g) (c : CanG X (.ref g) ks r) (hkw : PK X kws tk)
    (hall : (backToKw pos (keywordEach kws X.env)).all (·.1.isSome) = true := by rfl) (hks : (backToKw pos (keywordEach kws X.env)).filterMap (·.1) = ks := by rfl)
    (hpl : ((backTo pos (starEach [] X.env)).any (·.1) || (backToKw pos (keywordEach kws X.env)).any (·.1.isNone)) = false := by rfl)
    (ht : eval (.Call (.Attribute o m apos) [] kws pos) X.env = (eval o X.env >>= fun ov => standAt apos.atName >>= fun _ => holding [ov] (getMethod ov m pl) >>= fun p => callWith pos p.1 p.2 (backTo pos (starEach [] X.env)) (backToKw pos (keywordEach kws X.env))) := by rfl) :
    PE X (.Call (.Attribute o m apos) [] kws pos) (tGC C r to tNil tk) := by
  constructor
  intro pins s σ H Q I h
  refine PySem.W.methodCall_KW (pl := pl) (thn (he.run pins s σ H _ I h) ?_) ht
  rintro u s1 ⟨x, H1, I1, rx, rfl, q⟩
  cases (show u = Value.ref C from rx)
  refine ClX.getmethcm_ok I1 rd cm fun s2 I2 => ?_
  refine PySem.W.callWith_of hpl (PySem.W.keeps_M (K := X.K) (self := .ref C) cm.fi) (evalArgs_kw2_nil hall ?_)
  refine thn (hkw.run pos _ s2 σ H1 _ I2 q) ?_
  rintro ws s4 ⟨zs, H4, I4, rz, q4⟩
  rw [hks]
  exact ⟨⟨ClX.pin_at I4, I4.kIn⟩, runC c I4 .nil rz q4⟩
end
/-! ### over data -/
section
variable {c : Ct} {cs cs' : Cells} {Δ Δ' : Sts} {te ta tb to : TE} {tr tk : TA} {P : Dat → Prop} {d a b : Dat} {es fs ds : List Dat} {pre : Wld → List Dat → Prop} {post : List Dat → Dat → Prop} {postI : List Dat → List Dat → Prop} {xp : List Dat → Exc → Prop} {PA : List Dat → Prop} {E : XK} {n m : Nat} {gV : List V → List V → List V}
/-- how written arguments' and keywords' data make the parameters' data -/
def Gives (K : PySem.W.Frag) (gV : List V → List V → List V) (es fs ds : List Dat) : Prop := ∀ G vs zs, Reps K G es vs → Reps K G fs zs → Reps K G ds (gV vs zs)
def GivesI (K : PySem.W.Frag) (gV : List V → List V → List V) (es fs ds : List Dat) : Prop := ∀ G x vs zs, Reps K G es vs → Reps K G fs zs → ∃ ws, gV (.ref x :: vs) zs = .ref x :: ws ∧ Reps K G ds ws
abbrev XOk (c : Ct) (E : XK) (xp : List Dat → Exc → Prop) (ds : List Dat) : Prop := (c.E = E ∧ ∀ x, xp ds x → c.X x) ∨ ∀ x, ¬ xp ds x
theorem evp_g (ha : EVA c cs Δ tr PA) (hk : EVL c cs Δ tk fs) (h : ∀ es, PA es → es.length = n ∧ ∃ ds, Gives c.K gV es fs ds ∧ pre c.W ds ∧ XOk c E xp ds ∧ ∀ d, post ds d → P d) (h2 : fs.length = m) : EVP c cs Δ (tG (rFn n m (FSp c.K pre post xp) gV E) tr tk) P := fun σ G H s I R Q k =>
  ha σ G H s I R _ fun es' vs G1 H1 pa s1 rs => hk σ G1 H1 (s.mono s1.g) (s1.inn I) (R.on s1) _ fun fs' zs G2 H2 e2 s2 rz => by
    subst e2
    obtain ⟨h1, ds, hg, hp, hx, hq⟩ := h es' pa
    refine ⟨by rw [rs.len, h1], by rw [rz.len, h2], ?_⟩
    exact sp_run (s2.inn (s1.inn I)) ((R.on s1).on s2) (hg G2 vs zs (rs.mono s2.g) rz) hp hx fun d v G3 H3 pd s3 => k d v G3 H3 (hq d pd) ((s1.trans s2).trans s3)
theorem ev_g (ha : EVL c cs Δ tr es) (hk : EVL c cs Δ tk fs) (hg : Gives c.K gV es fs ds) (hp : pre c.W ds) (hx : XOk c E xp ds) (hq : ∀ d, post ds d → P d) (h1 : es.length = n := by rfl) (h2 : fs.length = m := by rfl) : EVP c cs Δ (tG (rFn n m (FSp c.K pre post xp) gV E) tr tk) P :=
  evp_g ha hk (fun _ e => by subst e; exact ⟨h1, ds, hg, hp, hx, hq⟩) h2
theorem evp_gm {C : Addr} {mm : Str} {fl : List Str} {Pf : List Dat → Prop} (ho : EVP c cs Δ to fun d => ∃ xs, d = .ins C fl xs ∧ Pf xs) (hm : ixOf mm fl = none) (ha : ∀ xs, Pf xs → EVA c cs Δ tr PA) (hk : EVL c cs Δ tk fs)
    (h : ∀ xs es, Pf xs → PA es → es.length + 1 = n ∧ ∃ ds, Gives c.K gV (.ins C fl xs :: es) fs ds ∧ pre c.W ds ∧ XOk c E xp ds ∧ ∀ d, post ds d → P d) (h2 : fs.length = m) : EVP c cs Δ (tGM C mm (rFn n m (FSp c.K pre post xp) gV E) to tr tk) P := fun σ G H s I R Q k =>
  ho σ G H s I R _ fun d v G1 H1 ⟨xs, e, pf⟩ s1 rd => by
    subst e
    obtain ⟨a, dx, ws, rfl, hg, hl, rs⟩ := rd
    refine ⟨a, dx, _, rfl, s1.i _ _ hg, ixOf_none hm, ?_⟩
    refine ha xs pf σ G1 H1 (s.mono s1.g) (s1.inn I) (R.on s1) _ fun es' vs G2 H2 pa s2 rv => ?_
    refine hk σ G2 H2 ((s.mono s1.g).mono s2.g) (s2.inn (s1.inn I)) ((R.on s1).on s2) _ fun fs' zs G3 H3 e3 s3 rz => ?_
    subst e3
    obtain ⟨h1, ds, hgv, hp, hx, hq⟩ := h xs es' pf pa
    refine ⟨by rw [List.length_cons, rv.len, h1], by rw [rz.len, h2], ?_⟩
    have r1 : Reps c.K G3 (.ins C fl xs :: es') (.ref a :: vs) := ⟨_, vs, rfl, ⟨a, dx, ws, rfl, s3.g _ _ (s2.g _ _ hg), hl, (rs.mono s2.g).mono s3.g⟩, rv.mono s3.g⟩
    exact sp_run (s3.inn (s2.inn (s1.inn I))) (((R.on s1).on s2).on s3) (hgv G3 _ zs r1 rz) hp hx fun d v G4 H4 pd s4 => k d v G4 H4 (hq d pd) (((s1.trans s2).trans s3).trans s4)
theorem ev_gm {C : Addr} {mm : Str} {fl : List Str} {xs : List Dat} (ho : EVD c cs Δ to (.ins C fl xs)) (ha : EVL c cs Δ tr es) (hk : EVL c cs Δ tk fs) (hg : Gives c.K gV (.ins C fl xs :: es) fs ds) (hp : pre c.W ds) (hx : XOk c E xp ds) (hq : ∀ d, post ds d → P d)
    (hm : ixOf mm fl = none := by decide +kernel) (h1 : es.length + 1 = n := by rfl) (h2 : fs.length = m := by rfl) : EVP c cs Δ (tGM C mm (rFn n m (FSp c.K pre post xp) gV E) to tr tk) P :=
  evp_gm (Pf := fun x => x = xs) (PA := fun x => x = es) (ho.imp fun d e => ⟨xs, e, rfl⟩) hm (fun _ _ => ha) hk (fun _ _ e1 e2 => by subst e1 e2; exact ⟨h1, ds, hg, hp, hx, hq⟩) h2
theorem evp_gc {C : Addr} (ho : EVD c cs Δ to (.obj (.ref C))) (ha : EVA c cs Δ tr PA) (hk : EVL c cs Δ tk fs) (h : ∀ es, PA es → es.length + 1 = n ∧ ∃ ds, Gives c.K gV (.obj (.ref C) :: es) fs ds ∧ pre c.W ds ∧ XOk c E xp ds ∧ ∀ d, post ds d → P d) (h2 : fs.length = m) :
    EVP c cs Δ (tGC C (rFn n m (FSp c.K pre post xp) gV E) to tr tk) P := fun σ G H s I R Q k =>
  ho σ G H s I R _ fun d v G1 H1 e s1 rd => by
    subst e
    refine ⟨rd, ha σ G1 H1 (s.mono s1.g) (s1.inn I) (R.on s1) _ fun es' vs G2 H2 pa s2 rv => ?_⟩
    refine hk σ G2 H2 ((s.mono s1.g).mono s2.g) (s2.inn (s1.inn I)) ((R.on s1).on s2) _ fun fs' zs G3 H3 e3 s3 rz => ?_
    subst e3
    obtain ⟨h1, ds, hgv, hp, hx, hq⟩ := h es' pa
    refine ⟨by rw [List.length_cons, rv.len, h1], by rw [rz.len, h2], ?_⟩
    have r1 : Reps c.K G3 (.obj (.ref C) :: es') (.ref C :: vs) := ⟨_, vs, rfl, rfl, rv.mono s3.g⟩
    exact sp_run (s3.inn (s2.inn (s1.inn I))) (((R.on s1).on s2).on s3) (hgv G3 _ zs r1 rz) hp hx fun d v G4 H4 pd s4 => k d v G4 H4 (hq d pd) (((s1.trans s2).trans s3).trans s4)
theorem ev_gc {C : Addr} (ho : EVD c cs Δ to (.obj (.ref C))) (ha : EVL c cs Δ tr es) (hk : EVL c cs Δ tk fs) (hg : Gives c.K gV (.obj (.ref C) :: es) fs ds) (hp : pre c.W ds) (hx : XOk c E xp ds) (hq : ∀ d, post ds d → P d) (h1 : es.length + 1 = n := by rfl) (h2 : fs.length = m := by rfl) :
    EVP c cs Δ (tGC C (rFn n m (FSp c.K pre post xp) gV E) to tr tk) P := evp_gc ho ha hk (fun _ e => by subst e; exact ⟨h1, ds, hg, hp, hx, hq⟩) h2
theorem ev_propG {C : Addr} {fl : List Str} {xs : List Dat} (ho : EVD c cs Δ to (.ins C fl xs)) (hp : pre c.W [.ins C fl xs]) (hx : XOk c E xp [.ins C fl xs]) (hq : ∀ d, post [.ins C fl xs] d → P d) : EVP c cs Δ (tPropG C (FSp c.K pre post xp) E to) P := fun σ G H s I R Q k =>
  ho σ G H s I R _ fun d v G1 H1 e s1 rd => by
    subst e
    obtain ⟨a, dx, ws, rfl, hg, hl, rs⟩ := rd
    refine ⟨a, dx, _, rfl, s1.i _ _ hg, ?_⟩
    exact sp_run (ds := [.ins C fl xs]) (s1.inn I) (R.on s1) (Reps.one ⟨a, dx, ws, rfl, hg, hl, rs⟩) hp hx fun d v G3 H3 pd s3 => k d v G3 H3 (hq d pd) (s1.trans s3)
theorem evp_mk {C : Addr} {fl : List Str} (ha : EVA c cs Δ tr PA) (hk : EVL c cs Δ tk fs) (h : ∀ es, PA es → es.length = n ∧ ∃ ds, GivesI c.K gV es fs ds ∧ pre c.W ds ∧ XOk c E xp ds ∧ ∀ xs, postI ds xs → P (.ins C fl xs)) (h2 : fs.length = m) :
    EVP c cs Δ (tG (rMk C n m (ISp c.K C pre fl postI xp) gV E) tr tk) P := fun σ G H s I R Q k =>
  ha σ G H s I R _ fun es' vs G1 H1 pa s1 rs => hk σ G1 H1 (s.mono s1.g) (s1.inn I) (R.on s1) _ fun fs' zs G2 H2 e2 s2 rz => by
    subst e2
    obtain ⟨h1, ds, hg, hp, hx, hq⟩ := h es' pa
    refine ⟨by rw [rs.len, h1], by rw [rz.len, h2], fun x dx hx0 hd0 ne => ?_⟩
    obtain ⟨ws, ew, rw_⟩ := hg G2 x vs zs (rs.mono s2.g) rz
    rw [ew]
    exact mk_run (s2.inn (s1.inn I)) ((R.on s1).on s2) rw_ hp hx hx0 hd0 ne fun d v G3 H3 ⟨xs, e, pe⟩ s3 => by
      subst e
      exact k _ v G3 H3 (hq xs pe) ((s1.trans s2).trans s3)
theorem ev_mk {C : Addr} {fl : List Str} (ha : EVL c cs Δ tr es) (hk : EVL c cs Δ tk fs) (hg : GivesI c.K gV es fs ds) (hp : pre c.W ds) (hx : XOk c E xp ds) (hq : ∀ xs, postI ds xs → P (.ins C fl xs)) (h1 : es.length = n := by rfl) (h2 : fs.length = m := by rfl) :
    EVP c cs Δ (tG (rMk C n m (ISp c.K C pre fl postI xp) gV E) tr tk) P := evp_mk ha hk (fun _ e => by subst e; exact ⟨h1, ds, hg, hp, hx, hq⟩) h2
/-- arguments alone, in their sequence -/
theorem gives_id {K : PySem.W.Frag} : Gives K (fun vs _ => vs) es [] es := fun G vs zs r _ => r
theorem givesI_id {K : PySem.W.Frag} : GivesI K (fun vs _ => vs) es [] es := fun G x vs zs r _ => ⟨vs, rfl, r⟩
theorem gives_dfl {K : PySem.W.Frag} {dvs : List V} {dds : List Dat} (h : ∀ G, Reps K G dds dvs) : Gives K (fun vs _ => vs ++ dvs) es [] (es ++ dds) := fun G vs zs r _ => r.app (h G)
theorem givesI_dfl {K : PySem.W.Frag} {dvs : List V} {dds : List Dat} (h : ∀ G, Reps K G dds dvs) : GivesI K (fun vs _ => vs ++ dvs) es [] (es ++ dds) := fun G x vs zs r _ => ⟨vs ++ dvs, rfl, r.app (h G)⟩
end
end DV

set_option autoImplicit false
set_option linter.all false
set_option maxRecDepth 100000
set_option maxHeartbeats 2000000
/-! Operators, comparisons, texts of instances of a class of the text, by its own methods; the texts of lists. -/
namespace DV
open PySem PySem.Spec PyProof.Rows L2

section
variable {X : Cx} {pins : List (Addr × Obj)} {σ : L2.St} {H : Hp} {s : Shared}
theorem fr_of (I : Inv X pins σ H s) : ∃ m, Fr X.base X.env.locals s.heap m := by
  obtain ⟨m, hn, _⟩ := I.loc
  exact ⟨m, hn, fun b o e => I.bk b o e, Nat.le_trans I.ok.bsz I.ok.above⟩
theorem at_of (I : Inv X pins σ H s) {a C dx : Addr} {fs : List (Str × V)} (e : H a = some (.ins C dx fs)) : ∃ ox od, PySem.W.InstAt s.heap a ox C od := by
  obtain ⟨mA, O, _⟩ := ins_get I.hok e
  obtain ⟨od, J, _⟩ := O.look
  exact ⟨_, _, J⟩
theorem cmpB {Q : Value → Shared → Prop} {x : V} {u : Value} {s' : Shared} (r : RelV x u) (q : Q u s') : PySem.W.CmpBack Q u s' := by
  cases x <;> first
    | (cases (show u = _ from r); exact q)
    | (obtain ⟨t, e⟩ := (show ∃ t, u = _ from r); cases e; exact q)
theorem thenE {Q' : Value → Shared → Prop} {Q : VK} {t : Sem Value} {A : Around} {E : Value → Shared → Prop} (h : wpAny (model X.prog X.w) A t (EP X pins σ Q) E s) (k : ∀ u s' v H', Inv X pins σ H' s' → RelV v u → Q v H' → Q' u s') : wpAny (model X.prog X.w) A t Q' E s :=
  wpAny_mono h (fun u s' ⟨v, H', I', r, q⟩ => k u s' v H' I' r q) fun _ _ z => z
end

/-! ### what the text must say -/
/-- a class whose operators are its own -/
structure OwnC (K : PySem.W.Frag) (C : Addr) : Prop where
  first : PySem.W.selfFirst K C = true
  subI : PySem.W.subIn K (.type "int") (.ref C) = some false
  subC : PySem.W.subIn K (.ref C) (.type "int") = some false
structure OwnM (K : PySem.W.Frag) (C : Addr) (m : Str) (f : Addr) : Prop where
  at_ : PySem.W.findIn K (.ref C) m = some (some (.ref f))
  fn : PySem.W.isFn K (.ref f) = true
theorem OwnM.of {K : PySem.W.Frag} {C : Addr} {m : Str} {f : Addr} (h : Meth K C m f) : OwnM K C m f := ⟨h.at_, h.fn⟩
/-- __nm__ and __rnm__ -/
structure OwnB (K : PySem.W.Frag) (C : Addr) (nm : String) (f : Addr) (rc : Option Value) : Prop where
  at_ : PySem.W.findIn K (.ref C) (PySem.dunder nm) = some (some (.ref f))
  fn : PySem.W.isFn K (.ref f) = true
  r : PySem.W.findIn K (.ref C) (dunderR nm) = some rc
  ro : rc = none ∨ ∃ g : Addr, rc = some (.ref g)
  i1 : ∃ o, PySem.W.findIn K (.type "int") (PySem.dunder nm) = some o
  i2 : ∃ o, PySem.W.findIn K (.type "int") (dunderR nm) = some o

/-! ### readings -/
abbrev RC := List V → List V → Hp → VK → Prop
def rOwnC (C : Addr) (r : RC) : R2 := fun x y H Q => ∃ a dx fs b dy gs, x = .ref a ∧ H a = some (.ins C dx fs) ∧ y = .ref b ∧ H b = some (.ins C dy gs) ∧ r [x, y] [] H Q
def rOwnI (C : Addr) (r : RC) : R2 := fun x y H Q => ∃ a dx fs i, x = .ref a ∧ H a = some (.ins C dx fs) ∧ y = .int i ∧ r [x, y] [] H Q
def rOwnR (C : Addr) (r : RC) : R2 := fun x y H Q => ∃ a dx fs i, y = .ref a ∧ H a = some (.ins C dx fs) ∧ x = .int i ∧ r [y, x] [] H Q
def rOwn1 (C : Addr) (r : RC) : V → Hp → VK → Prop := fun x H Q => ∃ a dx fs, x = .ref a ∧ H a = some (.ins C dx fs) ∧ r [x] [] H Q
/-- .. with the answer a bool -/
def rOwnNe (C : Addr) (r : RC) : R2 := fun x y H Q => ∃ a dx fs b dy gs, x = .ref a ∧ H a = some (.ins C dx fs) ∧ y = .ref b ∧ H b = some (.ins C dy gs) ∧ r [x, y] [] H fun v H' => ∃ k, v = .bl k ∧ Q (.bl (!k)) H'
def rOwnS (C : Addr) (r : RC) : List V → Hp → VK → Prop := fun xs H Q => ∃ a dx fs, xs = [.ref a] ∧ H a = some (.ins C dx fs) ∧ r xs [] H fun v H' => ∃ z, v = .str z ∧ Q (.str z) H'

section
variable {X : Cx} {C f : Addr} {r : RC} {rc : Option Value} {nm : String}
theorem run1 (cn : CanG X (.ref f) [] r) {pins : List (Addr × Obj)} {σ : L2.St} {H : Hp} {s : Shared} {Q : VK} {us : List Value} {vs : List V} (I : Inv X pins σ H s) (rv : Vals vs us) (h : r vs [] H Q) : wpAny (model X.prog X.w) X.A (call (.ref f) us) (EP X pins σ Q) X.xe s :=
  wpAny_call (cn pins σ H s Q us [] vs [] I rv .nil h)
theorem op_ownC {op : Operator} (hc : OwnC X.K C) (hm : OwnB X.K C op.info.2 f rc) (cn : CanG X (.ref f) [] r) : OpR X (binaryOp op) (rOwnC C r) := by
  intro pins s σ H x y v u Q I rx ry h
  obtain ⟨a, dx, fs, b, dy, gs, rfl, ha, rfl, hb, q⟩ := h
  cases (show v = Value.ref a from rx)
  cases (show u = Value.ref b from ry)
  obtain ⟨m, F⟩ := fr_of I
  obtain ⟨ox, od, J⟩ := at_of I ha
  obtain ⟨oy, oe, J2⟩ := at_of I hb
  refine PySem.W.binop_K F I.ok.mod.kin J J2.type hc.first hm.at_ hm.fn (thenE (run1 cn I (.cons rx (.cons ry .nil)) q) fun u s' v H' I' r' q' => cmpB r' ⟨v, H', I', r', q'⟩)
theorem op_ownI {op : Operator} (hc : OwnC X.K C) (hm : OwnB X.K C op.info.2 f rc) (cn : CanG X (.ref f) [] r) : OpR X (binaryOp op) (rOwnI C r) := by
  intro pins s σ H x y v u Q I rx ry h
  obtain ⟨a, dx, fs, i, rfl, ha, rfl, q⟩ := h
  cases (show v = Value.ref a from rx)
  obtain ⟨t, rfl⟩ := (show ∃ t, u = Value.int i t from ry)
  obtain ⟨m, F⟩ := fr_of I
  obtain ⟨ox, od, J⟩ := at_of I ha
  obtain ⟨o1, e1⟩ := hm.i1
  obtain ⟨o2, e2⟩ := hm.i2
  refine PySem.W.ksp_binT (T := "int") F I.ok.mod.kin J rfl hc.first hm.at_ hm.fn hm.r hm.ro e1 e2 hc.subI (thenE (run1 cn I (.cons rx (.cons ry .nil)) q) fun u s' v H' I' r' q' => cmpB r' ⟨v, H', I', r', q'⟩)
end
/-! an int on the left: it declines -/
section
variable {prog : Program} {w : World} {M : Model} {A : Around} {E : Value → Shared → Prop} {s : Shared} {C dx a : Addr} {i : Int} {t : Tok}
theorem ni_add {Q : Fin → Shared → Prop} (J : s.heap.get? a = some (PySem.W.instObj C dx)) (q : Q (.done (.ret .notImplemented)) s) : wpAny M A (Builtin.«int.__add__» ⟨[.int i t, .ref a], []⟩) Q E s := by
  obtain ⟨hh, g, d, tk, os⟩ := s
  wp_walk using AutoSeq1.wpAny_loadPart' J
  exact q
theorem ni_sub {Q : Fin → Shared → Prop} (J : s.heap.get? a = some (PySem.W.instObj C dx)) (q : Q (.done (.ret .notImplemented)) s) : wpAny M A (Builtin.«int.__sub__» ⟨[.int i t, .ref a], []⟩) Q E s := by
  obtain ⟨hh, g, d, tk, os⟩ := s
  wp_walk using AutoSeq1.wpAny_loadPart' J
  exact q
theorem ni_mul {Q : Fin → Shared → Prop} (J : s.heap.get? a = some (PySem.W.instObj C dx)) (q : Q (.done (.ret .notImplemented)) s) : wpAny M A (Builtin.«int.__mul__» ⟨[.int i t, .ref a], []⟩) Q E s := by
  obtain ⟨hh, g, d, tk, os⟩ := s
  wp_walk using AutoSeq1.wpAny_loadPart' J
  exact q
theorem ni_eq {Q : Fin → Shared → Prop} (J : s.heap.get? a = some (PySem.W.instObj C dx)) (q : Q (.done (.ret .notImplemented)) s) : wpAny M A (Builtin.«int.__eq__» ⟨[.int i t, .ref a], []⟩) Q E s := by
  obtain ⟨hh, g, d, tk, os⟩ := s
  wp_walk using AutoSeq1.wpAny_loadPart' J
  exact q
end
/-- int's own slot for an operation, and that it declines instances -/
structure IntNo (op : Operator) : Prop where
  fills : fillsNumberSlot (.type "int") op.info.2 = pure true
  no : ∀ (prog : Program) (w : World) (A : Around) (E : Value → Shared → Prop) (s : Shared) (C dx a : Addr) (i : Int) (t : Tok) (Q : Option Value → Shared → Prop), s.heap.get? a = some (PySem.W.instObj C dx) → Q none s → wpAny (model prog w) A (tryMethod (.int i t) (PySem.dunder op.info.2) (.ref a)) Q E s
theorem IntNo.mk' {op : Operator} {id : String} {B : Builtin} (fl : fillsNumberSlot (.type "int") op.info.2 = pure true) (sl : Slot "int" (PySem.dunder op.info.2) id) (en : entryFor table id = some B) (ar : ∀ a b, argsOk id ⟨[a, b], []⟩)
    (g : ∀ (M : Model) (A : Around) (E : Value → Shared → Prop) (s : Shared) (C dx a : Addr) (i : Int) (t : Tok) (Q : Fin → Shared → Prop), s.heap.get? a = some (PySem.W.instObj C dx) → Q (.done (.ret .notImplemented)) s → wpAny M A (B ⟨[.int i t, .ref a], []⟩) Q E s) : IntNo op :=
  ⟨fl, fun prog w A E s C dx a i t Q J q => wpAny_tryMethod_declines (typeIs_int _ _ _) sl (wpAny_call (codeAny_call_builtin sl.plain en (sl.check _ _ _ _ _ _ _ _ (typeIs_int _ _ _) (ar _ _) (g _ _ _ s C dx a i t _ J ⟨rfl, q⟩))))⟩
theorem intNo_add : IntNo .Add := .mk' PySem.F.fills_int_add PySem.F.slot_int_add PySem.F.entry_int_add (PySem.F.args_int_add_2) fun _ _ _ _ _ _ _ _ _ _ J q => ni_add J q
theorem intNo_sub : IntNo .Sub := .mk' PySem.F.fills_int_sub PySem.F.slot_int_sub PySem.F.entry_int_sub (PySem.F.args_int_sub_2) fun _ _ _ _ _ _ _ _ _ _ J q => ni_sub J q
theorem intNo_mul : IntNo .Mult := .mk' PySem.F.fills_int_mul PySem.F.slot_int_mul PySem.F.entry_int_mul (PySem.F.args_int_mul_2) fun _ _ _ _ _ _ _ _ _ _ J q => ni_mul J q
end DV

set_option autoImplicit false
set_option linter.all false
set_option maxRecDepth 100000
set_option maxHeartbeats 2000000
namespace DV
open PySem PySem.Spec PyProof.Rows L2
open PySem.W (Looks)
section
variable {X : Cx} {C f : Addr} {r : RC} {rc : Option Value}
theorem obj_of {pins : List (Addr × Obj)} {σ : L2.St} {H : Hp} {s : Shared} (I : Inv X pins σ H s) {a dx : Addr} {fs : List (Str × V)} (e : H a = some (.ins C dx fs)) : s.heap.get? a = some (PySem.W.instObj C dx) := by
  obtain ⟨mA, O, _⟩ := ins_get I.hok e
  exact O.obj
theorem op_ownR {op : Operator} (hn : IntNo op) (hc : OwnC X.K C) (hm : OwnB X.K C op.info.2 f rc) {g : Addr} (hg : OwnM X.K C (dunderR op.info.2) g) (cn : CanG X (.ref g) [] r) : OpR X (binaryOp op) (rOwnR C r) := by
  intro pins s σ H x y v u Q I rx ry h
  obtain ⟨a, dx, fs, i, rfl, ha, rfl, q⟩ := h
  cases (show u = Value.ref a from ry)
  obtain ⟨t, rfl⟩ := (show ∃ t, v = Value.int i t from rx)
  have K := I.kIn
  obtain ⟨ox, od, J⟩ := at_of I ha
  have hob := obj_of I ha
  have fin := run1 cn I (.cons ry (.cons rx .nil)) q
  have two : wpAny (model X.prog X.w) X.A (tryMethod (.ref a) (dunderR op.info.2) (.int i t)) (fun z s' => ∃ w', z = some w' ∧ EP X pins σ Q w' s') X.xe s :=
    PySem.W.ksp_try K J hg.at_ hg.fn (thenE fin fun u s' v H' I' r' q' => cmpB r' ⟨v, H', I', r', q'⟩)
  have one := fun Q' q' => hn.no X.prog X.w X.A X.xe s C dx a i t Q' hob q'
  have fl := hn.fills
  have hat := hm.at_
  obtain ⟨cd, rest, hcd, hmr⟩ := PySem.W.ksp_first hc.first
  have hsub := hc.subC
  rcases hi : op.info with ⟨sym, nm⟩
  rw [hi] at hat two one fl
  dsimp only at hat two one fl
  clear fin
  obtain ⟨hh, gg, d, tk, os⟩ := s
  have L1 : Looks (model X.prog X.w) hh (typeOf (.ref a)) (.ref C) := J.type
  have L3 : Looks (model X.prog X.w) hh (fillsNumberSlot (.ref C) nm) true := PySem.W.fills_K K hcd hmr hat
  have L5 : Looks (model X.prog X.w) hh (isSubtype (.ref C) (.type "int")) false := PySem.W.looks_subIn K hsub
  have hne : (Value.type "int" == Value.ref C) = false := Bool.eq_false_iff.mpr fun z => by cases beq_iff_eq.mp z
  have hpy : numberSlotInPython (.type "int") nm = pure false := rfl
  have ty : typeOf (.int i t) = pure (.type "int") := rfl
  simp only [binaryOp, hi]
  refine wpAny_holding (wpAny_bind ?_)
  unfold binaryOp1
  refine wpAny_bind (wpAny_of_eq ty (wpAny_bind (L1.at (wpAny_bind (wpAny_of_eq fl ?_)))))
  simp only [hne, Bool.false_eq_true, if_false]
  refine wpAny_bind (L3.at ?_)
  simp only [Bool.and_self, if_true]
  refine wpAny_bind (L5.at ?_)
  simp only [Bool.false_eq_true, if_false, pure_bind, Bool.not_false, Bool.and_self, if_true, hpy]
  refine wpAny_bind (one _ ?_)
  dsimp only
  refine wpAny_bind (wpAny_mono two (fun z s' hz => ?_) fun _ _ e => e)
  obtain ⟨w', rfl, hq⟩ := hz
  exact wpAny_bind (wpAny_rule (wpAny_pure (wpAny_pure hq)))
theorem un_ownNeg (hm : OwnM X.K C "__neg__" f) (cn : CanG X (.ref f) [] r) : UnR X (unaryOp .USub) (rOwn1 C r) := by
  intro pins s σ H x v Q I rx h
  obtain ⟨a, dx, fs, rfl, ha, q⟩ := h
  cases (show v = Value.ref a from rx)
  obtain ⟨m, F⟩ := fr_of I
  obtain ⟨ox, od, J⟩ := at_of I ha
  exact PySem.W.ksp_neg F I.ok.mod.kin J hm.at_ hm.fn (run1 cn I (.cons rx .nil) q)
theorem op_eqOwnC (hu : X.A.units < cLine) (hm : OwnM X.K C "__eq__" f) (cn : CanG X (.ref f) [] r) : OpR X (compareOp .Eq) (rOwnC C r) := by
  intro pins s σ H x y v u Q I rx ry h
  obtain ⟨a, dx, fs, b, dy, gs, rfl, ha, rfl, hb, q⟩ := h
  cases (show v = Value.ref a from rx)
  cases (show u = Value.ref b from ry)
  obtain ⟨m, F⟩ := fr_of I
  obtain ⟨ox, od, J⟩ := at_of I ha
  obtain ⟨oy, oe, J2⟩ := at_of I hb
  show wpAny _ _ (richCompare .Eq _ _) _ _ _
  refine PySem.W.cmp_K (tb := .ref C) hu F I.ok.mod.kin J J2.type ?_ hm.at_ hm.fn (thenE (run1 cn I (.cons rx (.cons ry .nil)) q) fun u s' v H' I' r' q' => cmpB r' ⟨v, H', I', r', q'⟩)
  unfold PySem.W.notFirst
  simp
theorem op_eqOwnI (hu : X.A.units < cLine) (hc : OwnC X.K C) (hm : OwnM X.K C "__eq__" f) (cn : CanG X (.ref f) [] r) : OpR X (compareOp .Eq) (rOwnI C r) := by
  intro pins s σ H x y v u Q I rx ry h
  obtain ⟨a, dx, fs, i, rfl, ha, rfl, q⟩ := h
  cases (show v = Value.ref a from rx)
  obtain ⟨t, rfl⟩ := (show ∃ t, u = Value.int i t from ry)
  obtain ⟨m, F⟩ := fr_of I
  obtain ⟨ox, od, J⟩ := at_of I ha
  show wpAny _ _ (richCompare .Eq _ _) _ _ _
  refine PySem.W.cmp_K (tb := .type "int") hu F I.ok.mod.kin J (Looks.of_pure rfl) ?_ hm.at_ hm.fn (thenE (run1 cn I (.cons rx (.cons ry .nil)) q) fun u s' v H' I' r' q' => cmpB r' ⟨v, H', I', r', q'⟩)
  unfold PySem.W.notFirst
  rw [hc.subI]
  simp
theorem op_eqOwnR (hu : X.A.units < cLine) (hc : OwnC X.K C) (hm : OwnM X.K C "__eq__" f) (cn : CanG X (.ref f) [] r) : OpR X (compareOp .Eq) (rOwnR C r) := by
  intro pins s σ H x y v u Q I rx ry h
  obtain ⟨a, dx, fs, i, rfl, ha, rfl, q⟩ := h
  cases (show u = Value.ref a from ry)
  obtain ⟨t, rfl⟩ := (show ∃ t, v = Value.int i t from rx)
  have K := I.kIn
  obtain ⟨ox, od, J⟩ := at_of I ha
  have hob := obj_of I ha
  have fin := run1 cn I (.cons ry (.cons rx .nil)) q
  have two : wpAny (model X.prog X.w) X.A (tryCompare (.ref a) "__eq__" (.int i t)) (fun z s' => ∃ w', z = some w' ∧ EP X pins σ Q w' s') X.xe s := by
    unfold tryCompare
    refine wpAny_bind (PySem.W.ifBound_K K J hm.at_ hm.fn (thenE fin fun u s' v H' I' r' q' => ?_))
    have z : PySem.W.CmpBack (EP X pins σ Q) u s' := cmpB r' ⟨v, H', I', r', q'⟩
    cases u <;> first | exact z.elim | exact wpAny_pure ⟨_, rfl, z⟩
  have one : ∀ Q' : Option Value → Shared → Prop, Q' none s → wpAny (model X.prog X.w) X.A (tryCompare (.int i t) (cmpInfo .Eq).2.1 (.ref a)) Q' X.xe s := fun Q' q' =>
    wpAny_tryCompare_declines (typeIs_int _ _ _) PySem.F.slot_int_eq (wpAny_call (codeAny_call_builtin PySem.F.slot_int_eq.plain PySem.F.entry_int_eq (PySem.F.slot_int_eq.check _ _ _ _ _ _ _ _ (typeIs_int _ _ _) (PySem.F.args_int_eq_2 _ _) (ni_eq hob ⟨rfl, q'⟩))))
  have hsub := hc.subC
  clear fin
  obtain ⟨hh, gg, d, tk, os⟩ := s
  have L1 : Looks (model X.prog X.w) hh (typeOf (.ref a)) (.ref C) := J.type
  have L5 : Looks (model X.prog X.w) hh (isSubtype (.ref C) (.type "int")) false := PySem.W.looks_subIn K hsub
  have hne : (Value.type "int" != Value.ref C) = true := by
    rw [bne_iff_ne]
    exact fun z => by cases z
  have ty : typeOf (.int i t) = pure (.type "int") := rfl
  have on : oneThing? CmpOp.Eq (.int i t) (.ref a) = none := by rfl
  show wpAny _ _ (richCompare .Eq _ _) _ _ _
  unfold richCompare
  rw [on]
  refine wpAny_holding (wpAny_bind (wpAny_cRoomFor hu ?_))
  refine wpAny_bind (wpAny_of_eq ty (wpAny_bind (L1.at ?_)))
  simp only [hne, if_true]
  refine wpAny_bind (L5.at ?_)
  simp only [Bool.false_eq_true, if_false]
  refine wpAny_bind (one _ ?_)
  simp only [Bool.not_false, if_true]
  refine wpAny_bind (wpAny_mono two (fun z s' hz => ?_) fun _ _ e => e)
  obtain ⟨w', rfl, hq⟩ := hz
  exact wpAny_pure hq
end
end DV

set_option autoImplicit false
set_option linter.all false
set_option maxRecDepth 100000
set_option maxHeartbeats 2000000
namespace DV
open PySem PySem.Spec PyProof.Rows L2
open PySem.W (Looks)
section
variable {X : Cx} {CX : CXT} {k : Nat} {C f : Addr} {fd : FuncData} {ps : List Str} {sp : Sp} {E : XK} {g : List Value → List Value → List Value} {gV : List V → List V → List V} {n : Nat}
/-- a def called under other code: A is around -/
theorem runA (F : FnG X.prog X.w X.K X.mg X.base CX k f fd ps sp) {A : Around} (hr : RoomG k A) (hb : KBn X.K fd ps n [] g gV) (hx : Passes CX X E) {pins : List (Addr × Obj)} {σ : L2.St} {H : Hp} {s : Shared} {Q : VK} {us : List Value} {vs : List V}
    (I : Inv X pins σ H s) (e0 : Env0 X.prog X.w X.K X.mg X.base A X.stack s H) (rv : Vals vs us) (h : rFn n 0 sp gV E vs [] H Q) : wpAny (model X.prog X.w) A (call (.ref f) us) (EP X pins σ Q) X.xe s := by
  obtain ⟨l1, _, h⟩ := h
  have b := hb.to s us [] I.kIn (rv.length.symm.trans l1) rfl
  refine wpAny_call (codeAny_mono (F.go A X.stack s H ⟨us, []⟩ _ _ Q E hr e0 b (hb.rel rv .nil) h) ?_)
  intro r s' z
  cases r with
  | error e => exact hx pins σ H s e s' I z
  | ok fl =>
    obtain ⟨u, e, q⟩ := backG I z
    subst e
    exact q
theorem op_neOwnC (F : FnG X.prog X.w X.K X.mg X.base CX k f fd ps sp) (hr : RoomG (k + 1) X.A) (hb : KBn X.K fd ps n [] g gV) (hx : Passes CX X E) (hm : OwnM X.K C "__eq__" f)
    (hne : PySem.W.findIn X.K (.ref C) "__ne__" = some (some (.builtin "object.__ne__"))) (ho : PySem.W.mroIn X.K C (.type "object") = some true) : OpR X (compareOp .NotEq) (rOwnNe C (rFn n 0 sp gV E)) := by
  intro pins s σ H x y v u Q I rx ry h
  obtain ⟨a, dx, fs, b, dy, gs, rfl, ha, rfl, hb', q⟩ := h
  cases (show v = Value.ref a from rx)
  cases (show u = Value.ref b from ry)
  have K := I.kIn
  obtain ⟨ox, od, J⟩ := at_of I ha
  obtain ⟨oy, oe, J2⟩ := at_of I hb'
  have hu : X.A.units + 1 < cLine := hu_of hr.r
  have fin := runA F hr.in1 hb hx I I.env0.in1 (.cons rx (.cons ry .nil)) q
  have one : wpAny (model X.prog X.w) X.A (tryCompare (.ref a) "__ne__" (.ref b)) (fun z s' => ∃ w', z = some w' ∧ EP X pins σ Q w' s') X.xe s := by
    simp only [tryCompare]
    refine wpAny_bind (m := callSpecialIfBound? _ _ _) ?_
    simp only [callSpecialIfBound?, bindSpecialIfBound?]
    refine wpAny_holding (wpAny_bind (wpAny_bind (wpAny_bind (J.type.here ((PySem.W.looks_findIn K hne).here ?_)))))
    have fin2 : wpAny (model X.prog X.w) X.A (call (.builtin "object.__ne__") [.ref a, .ref b]) (fun w' s' => w' ≠ .notImplemented ∧ EP X pins σ Q w' s') X.xe s := by
      refine wpAny_call (codeAny_call_builtin PySem.F.cmp_object.ne.plain PySem.F.cmpEntry_ne (PySem.W.check_slot (i := "object.__ne__") (owner := "object") (n := "__ne__") PySem.F.cmpKind_ne PySem.F.cmpSplit_ne (J.type.andThen (PySem.W.looks_mroIn K ho)) (PySem.F.cmpArgs_ne _ _) ?_))
      unfold Builtin.«object.__ne__»
      refine wpAny_bind (m := slotArgs "__ne__" 1 _) (wpAny_pure ?_)
      refine wpAny_bind (m := cRoomFor _ _) (wpAny_cRoomFor hu ?_)
      refine wpAny_bind (m := callSpecialIfBound? (.ref a) (Str.ofString "__eq__") [.ref b]) (PySem.W.ifBound_K K J hm.at_ hm.fn (wpAny_mono fin (fun u s' hz => ?_) fun _ _ e => e))
      obtain ⟨v, H', I', r', k', rfl, q'⟩ := hz
      cases (show u = Value.bool k' from r')
      refine wpAny_bind (m := truthy (.bool k')) (wpAny_truthy_bool (wpAny_pure ?_))
      exact ⟨nofun, .bl (!k'), H', I', rfl, q'⟩
    have hbd : bindSpecial (.builtin "object.__ne__") (.ref a) = pure (.builtin "object.__ne__", [.ref a]) := PySem.F.cmp_object.ne.bind _
    refine wpAny_bind (wpAny_askSetting (wpAny_ite ?_))
    split
    · refine wpAny_bind (wpAny_of_eq hbd (wpAny_pure ?_))
      refine wpAny_bind (wpAny_mono fin2 (fun v s' hz => ?_) fun _ _ e => e)
      obtain ⟨nv, hz⟩ := hz
      refine wpAny_pure ?_
      cases v <;> first | exact absurd rfl nv | exact wpAny_pure ⟨_, rfl, hz⟩
    · refine wpAny_tryCatch (wpAny_bind (wpAny_of_eq hbd (wpAny_pure ?_)))
      refine wpAny_bind (wpAny_mono fin2 (fun v s' hz => ?_) fun _ _ e => e)
      obtain ⟨nv, hz⟩ := hz
      refine wpAny_pure ?_
      cases v <;> first | exact absurd rfl nv | exact wpAny_pure ⟨_, rfl, hz⟩
  show wpAny _ _ (richCompare .NotEq _ _) _ _ _
  unfold richCompare
  simp only [oneThing_ref]
  refine wpAny_holding (wpAny_bind (wpAny_cRoomFor (by omega) ?_))
  refine wpAny_bind (J.type.here (wpAny_bind (J2.type.here ?_)))
  rw [show (Value.ref C != Value.ref C) = false from by simp]
  simp only [Bool.false_eq_true, if_false]
  refine wpAny_bind (wpAny_pure ?_)
  simp only [Bool.false_eq_true, if_false]
  refine wpAny_bind (wpAny_mono one (fun z s' hz => ?_) fun _ _ e => e)
  obtain ⟨w', rfl, hq⟩ := hz
  exact wpAny_pure hq
/-- str(e), e's class with its own __str__ -/
theorem call_strOwn (F : FnG X.prog X.w X.K X.mg X.base CX k f fd ps sp) (hr : RoomG (k + 2) X.A) (hb : KBn X.K fd ps n [] g gV) (hx : Passes CX X E) (hm : OwnM X.K C "__str__" f) : CallR X (.type "str") (rOwnS C (rFn n 0 sp gV E)) := by
  intro pins s σ H xs us Q I rv h
  obtain ⟨a, dx, fs, rfl, ha, q⟩ := h
  obtain rfl : us = [.ref a] := by
    cases rv with
    | cons r1 rn => cases rn; cases (show _ = Value.ref a from r1); rfl
  obtain ⟨ox, od, J⟩ := at_of I ha
  have fin := runA F hr.in1.in1 hb hx I I.env0.in1.in1 rv q
  have hu := hu_of hr.in1.in1.r
  refine PySem.W.kso_call (by omega) I.kIn J hm.at_ hm.fn (wpAny_mono fin (fun u s' hz => ?_) fun _ _ e => e)
  obtain ⟨v, H', I', r', z, rfl, q'⟩ := hz
  obtain ⟨t, rfl⟩ := id r'
  exact ⟨.str z, H', I', r', q'⟩
/-- repr(e), e's class with its own __repr__ -/
theorem call_reprOwn (F : FnG X.prog X.w X.K X.mg X.base CX k f fd ps sp) (hr : RoomG (k + 1) X.A) (hb : KBn X.K fd ps n [] g gV) (hx : Passes CX X E) (hm : OwnM X.K C "__repr__" f) : CallR X (.builtin "repr") (rOwnS C (rFn n 0 sp gV E)) := by
  intro pins s σ H xs us Q I rv h
  obtain ⟨a, dx, fs, rfl, ha, q⟩ := h
  obtain rfl : us = [.ref a] := by
    cases rv with
    | cons r1 rn => cases rn; cases (show _ = Value.ref a from r1); rfl
  obtain ⟨ox, od, J⟩ := at_of I ha
  obtain ⟨m, Fr⟩ := fr_of I
  have fin := runA F hr.in1 hb hx I I.env0.in1 rv q
  have hu := hu_of hr.in1.r
  refine PySem.W.repr_K (by omega) Fr I.ok.mod.kin J hm.at_ hm.fn (wpAny_mono fin (fun u s' hz => ?_) fun _ _ e => e)
  obtain ⟨v, H', I', r', z, rfl, q'⟩ := hz
  obtain ⟨t, rfl⟩ := id r'
  exact ⟨.str z, H', I', r', q'⟩
/-- repr of data: the text that shown tells -/
def rReprD (K : PySem.W.Frag) : List V → Hp → VK → Prop := fun xs H Q => ∃ a d, xs = [.ref a] ∧ Dp K H (.ref a) d ∧ d.showable = true ∧ d.hasDict = false ∧ d.depth ≤ 60 ∧ d.shown.length ≤ sizeLine ∧ Q (.str d.shown) H
theorem call_reprD (hr : RoomG k X.A) : CallR X (.builtin "repr") (rReprD X.K) := by
  intro pins s σ H xs us Q I rv h
  obtain ⟨a, d, rfl, hd, sh, nd, dp, sz, q⟩ := h
  obtain rfl : us = [.ref a] := by
    cases rv with
    | cons r1 rn => cases rn; cases (show _ = Value.ref a from r1); rfl
  obtain ⟨as, r⟩ := Dp.reads I d (.ref a) (.ref a) hd rfl
  have hu := hr.r.un
  refine repr_of_reads' r sh (fun z => by rw [nd] at z; cases z) hr.g (by omega) (fun b o e => e) (fun h' u tk hk => ?_) sz
  exact ⟨.str d.shown, H, I.kept hk, ⟨u, rfl⟩, q⟩
end
end DV

set_option autoImplicit false
set_option linter.all false
set_option maxRecDepth 100000
set_option maxHeartbeats 2000000
/-! Built-in operations over data. -/
namespace DV
open PySem PySem.Spec PyProof.Rows L2
section
variable {X : Cx}
/-- list + list, of lists of any make -/
def rCatA (K : PySem.W.Frag) : R2 := fun x y H Q => ∃ l b xs zs, x = .ref l ∧ y = .ref b ∧ SqL K H l xs ∧ SqL K H b zs ∧ xs.length + zs.length ≤ sizeLine ∧ ∀ p, H p = none → Q (.ref p) (upd H p (.lst (xs ++ zs)))
theorem list_addA {l b : Addr} {its its2 : Array Value} (hc0 : its.size + its2.size ≤ sizeLine) :
    Meets (Builtin.«list.__add__» ⟨[.ref l, .ref b], []⟩) (fun _ R s => PlainL s.heap l its ∧ PlainL s.heap b its2 ∧ R (.ok (.ret (Value.ref s.heap.objs.size))) { s with heap := s.heap.push { cls := Value.type "list", data := Data.seq (its ++ its2) }, toks := s.toks }) :=
  .of_wp fun prog w A R s h => by
    obtain ⟨hp, g, d, tk, os⟩ := s
    obtain ⟨⟨⟨c1, d1, t1, s1⟩, n1, hl, e1, e2, e3⟩, ⟨⟨c2, d2, t2, s2⟩, n2, hb, e4, e5, e6⟩, h⟩ := h
    simp only at e1 e2 e3 e4 e5 e6
    subst e1 e2 e3 e4 e5 e6
    have f3 := AutoSeq1.sub_list_list
    wp_walk using AutoSeq1.wpAny_loadPart' hl, AutoSeq1.wpAny_loadPart' hb
    exact ⟨_, rfl, h⟩
theorem op_catA : OpR X (binaryOp .Add) (rCatA X.K) := by
  intro pins s σ H x y v u Q I rx ry h
  obtain ⟨l, b, xs, zs, rfl, rfl, hH, hB, hz, q⟩ := h
  cases (show v = Value.ref l from rx)
  cases (show u = Value.ref b from ry)
  obtain ⟨its, r, p, _⟩ := I.list hH
  obtain ⟨its2, r2, p2, _⟩ := I.list hB
  have e1 := r.length
  have e2 := r2.length
  refine concat_meets p.isList.typeIs p2.isList.typeIs PySem.noFill_list_add PySem.seq_list_add PySem.F.slot_list_add PySem.F.entry_list_add (PySem.F.args_list_add_2 _ _) (list_addA (its := its.toArray) (its2 := its2.toArray) (by rw [List.size_toArray, List.size_toArray]; omega)) ⟨p, p2, ?_⟩
  have ea : its.toArray ++ its2.toArray = (its ++ its2).toArray := by simp
  rw [ea]
  exact ⟨.ref _, _, I.lnew (t' := s.toks) (r.append r2) (by rw [List.length_append]; omega), rfl, q _ I.fresh⟩
/-- // by a divisor of fewer than 9000 bits -/
def CFd (i j : Int) : Prop := j ≠ 0 ∧ j.natAbs.log2 < 9000
theorem op_fdA : OpR X (binaryOp .FloorDiv) (rI CFd fun i j => .int (i.fdiv j)) := opI fun i j _ _ _ _ _ hc q => floordiv_int hc.1 q (.inl (PyProof.noPylong_of_log2 hc.2))
end
/-! ### readings for any built-in operands -/
section
variable (K : PySem.W.Frag)
def bAdd : R2 := fun x y H Q => rI0 (fun i j => .int (i + j)) x y H Q ∨ rAddS x y H Q ∨ rCatA K x y H Q
def bSub : R2 := rI0 fun i j => .int (i - j)
def bMul : R2 := rI CMulW fun i j => .int (i * j)
def bFd : R2 := rI CFd fun i j => .int (i.fdiv j)
def bMod : R2 := rI (fun _ j => j ≠ 0) fun i j => .int (i.fmod j)
def bPow : R2 := rI CPow fun i j => .int (i ^ j.toNat)
def bEq : R2 := fun x y H Q => rEq x y H Q ∨ rEqD K x y H Q
def bNe : R2 := fun x y H Q => rNe x y H Q ∨ rNeD K x y H Q
def bLt : R2 := rI0 fun i j => .bl (decide (i < j))
def bLe : R2 := rI0 fun i j => .bl (decide (i ≤ j))
def bGt : R2 := rI0 fun i j => .bl (decide (j < i))
def bGe : R2 := rI0 fun i j => .bl (decide (j ≤ i))
def bIs : R2 := fun x y H Q => rIsB x y H Q ∨ rIsN x y H Q
def bNeg : V → Hp → VK → Prop := rU fun i => .int (-i)
end
section
variable {X : Cx} {k : Nat}
theorem o_add : OpR X (binaryOp .Add) (bAdd X.K) := op_add.or (op_add_str.or op_catA)
theorem o_sub : OpR X (binaryOp .Sub) bSub := op_sub
theorem o_mul : OpR X (binaryOp .Mult) bMul := op_mulW
theorem o_fd : OpR X (binaryOp .FloorDiv) bFd := op_fdA
theorem o_mod : OpR X (binaryOp .Mod) bMod := op_modN
theorem o_pow : OpR X (binaryOp .Pow) bPow := op_pow
theorem o_eq (hr : RoomG k X.A) : OpR X (compareOp .Eq) (bEq X.K) := op_eq.or (op_eqD (by have := hr.r.un; omega))
theorem o_ne (hr : RoomG k X.A) : OpR X (compareOp .NotEq) (bNe X.K) := op_ne.or (op_neD (by have := hr.r.un; omega))
theorem o_lt : OpR X (compareOp .Lt) bLt := op_lt
theorem o_le : OpR X (compareOp .LtE) bLe := op_le
theorem o_gt : OpR X (compareOp .Gt) bGt := op_gt
theorem o_ge : OpR X (compareOp .GtE) bGe := op_ge
theorem o_is : OpR X (compareOp .Is) bIs := op_isBl.or op_isN
theorem o_neg : UnR X (unaryOp .USub) bNeg := un_neg
end
/-! ### what they make of data -/
section
variable {c : Ct} {cs : Cells} {r r' : R2} {a b : Dat} {P : Dat → Prop} {i j : Int}
theorem ROP.inl (h : ROP c cs r a b P) : ROP c cs (fun x y H Q => r x y H Q ∨ r' x y H Q) a b P := fun G H x y I R ra rb Q q => .inl (h G H x y I R ra rb Q q)
theorem ROP.inr (h : ROP c cs r' a b P) : ROP c cs (fun x y H Q => r x y H Q ∨ r' x y H Q) a b P := fun G H x y I R ra rb Q q => .inr (h G H x y I R ra rb Q q)
theorem d_I0 {g : Int → Int → V} {d : Dat} (h : ∀ G, Rep c.K G d (g i j)) : ROD c cs (rI0 g) (.int i) (.int j) d := fun G H x y I R ra rb Q q => ⟨i, j, ra, rb, q d _ G H rfl (Step.refl I) (h G)⟩
theorem d_I {C : Int → Int → Prop} {g : Int → Int → V} {d : Dat} (hc : C i j) (h : ∀ G, Rep c.K G d (g i j)) : ROD c cs (rI C g) (.int i) (.int j) d := fun G H x y I R ra rb Q q => ⟨i, j, ra, rb, hc, q d _ G H rfl (Step.refl I) (h G)⟩
theorem d_add : ROD c cs (bAdd c.K) (.int i) (.int j) (.int (i + j)) := ROP.inl (d_I0 fun _ => rfl)
theorem d_sub : ROD c cs bSub (.int i) (.int j) (.int (i - j)) := d_I0 fun _ => rfl
theorem d_mul (h : CMulW i j) : ROD c cs bMul (.int i) (.int j) (.int (i * j)) := d_I h fun _ => rfl
theorem d_fd (h : CFd i j) : ROD c cs bFd (.int i) (.int j) (.int (i.fdiv j)) := d_I h fun _ => rfl
theorem d_mod (h : j ≠ 0) : ROD c cs bMod (.int i) (.int j) (.int (i.fmod j)) := d_I h fun _ => rfl
theorem d_pow (h : CPow i j) : ROD c cs bPow (.int i) (.int j) (.int (i ^ j.toNat)) := d_I h fun _ => rfl
theorem d_lt : ROD c cs bLt (.int i) (.int j) (.bl (decide (i < j))) := d_I0 fun _ => rfl
theorem d_le : ROD c cs bLe (.int i) (.int j) (.bl (decide (i ≤ j))) := d_I0 fun _ => rfl
theorem d_gt : ROD c cs bGt (.int i) (.int j) (.bl (decide (j < i))) := d_I0 fun _ => rfl
theorem d_ge : ROD c cs bGe (.int i) (.int j) (.bl (decide (j ≤ i))) := d_I0 fun _ => rfl
theorem d_addS {x y : Str} (h : x.length + y.length ≤ sizeLine) : ROD c cs (bAdd c.K) (.str x) (.str y) (.str (x ++ y)) := ROP.inr (ROP.inl fun G H u v I R ra rb Q q => ⟨x, y, ra, rb, h, q (.str (x ++ y)) _ G H rfl (Step.refl I) rfl⟩)
theorem d_addL {xs ys : List Dat} (h : xs.length + ys.length ≤ 100000) : ROD c cs (bAdd c.K) (.lst xs) (.lst ys) (.lst (xs ++ ys)) := ROP.inr (ROP.inr fun G H u v I R ra rb Q q => by
  obtain ⟨a, vs, rfl, ha, r1⟩ := ra
  obtain ⟨b, us, rfl, hb, r2⟩ := rb
  refine ⟨a, b, vs, us, rfl, rfl, ex_l I.ex ha, ex_l I.ex hb, by rw [r1.len, r2.len]; exact Nat.le_trans h (by decide), fun p hp => ?_⟩
  have n := Step.new I (o := .lst (vs ++ us)) hp
  exact q (.lst (xs ++ ys)) _ _ _ rfl n ⟨p, _, rfl, SqL.of upd_same, (r1.mono n.g).app (r2.mono n.g)⟩)
theorem d_eqI : ROD c cs (bEq c.K) (.int i) (.int j) (.bl (decide (i = j))) := ROP.inl fun G H u v I R ra rb Q q => by
  rw [show u = V.int i from ra, show v = V.int j from rb]
  exact ⟨rfl, by rw [show decide (V.int i = V.int j) = decide (i = j) by simp]; exact q _ _ G H rfl (Step.refl I) rfl⟩
theorem d_neI : ROD c cs (bNe c.K) (.int i) (.int j) (.bl (!decide (i = j))) := ROP.inl fun G H u v I R ra rb Q q => by
  rw [show u = V.int i from ra, show v = V.int j from rb]
  exact ⟨rfl, by rw [show decide (V.int i = V.int j) = decide (i = j) by simp]; exact q _ _ G H rfl (Step.refl I) rfl⟩
theorem d_eqS {i j : Str} : ROD c cs (bEq c.K) (.str i) (.str j) (.bl (decide (i = j))) := ROP.inl fun G H u v I R ra rb Q q => by
  rw [show u = V.str i from ra, show v = V.str j from rb]
  exact ⟨rfl, by rw [show decide (V.str i = V.str j) = decide (i = j) by simp]; exact q _ _ G H rfl (Step.refl I) rfl⟩
theorem d_neS {i j : Str} : ROD c cs (bNe c.K) (.str i) (.str j) (.bl (!decide (i = j))) := ROP.inl fun G H u v I R ra rb Q q => by
  rw [show u = V.str i from ra, show v = V.str j from rb]
  exact ⟨rfl, by rw [show decide (V.str i = V.str j) = decide (i = j) by simp]; exact q _ _ G H rfl (Step.refl I) rfl⟩
theorem d_eqB {i j : Bool} : ROD c cs (bEq c.K) (.bl i) (.bl j) (.bl (decide (i = j))) := ROP.inl fun G H u v I R ra rb Q q => by
  rw [show u = V.bl i from ra, show v = V.bl j from rb]
  exact ⟨rfl, by rw [show decide (V.bl i = V.bl j) = decide (i = j) by simp]; exact q _ _ G H rfl (Step.refl I) rfl⟩
theorem d_neB {i j : Bool} : ROD c cs (bNe c.K) (.bl i) (.bl j) (.bl (!decide (i = j))) := ROP.inl fun G H u v I R ra rb Q q => by
  rw [show u = V.bl i from ra, show v = V.bl j from rb]
  exact ⟨rfl, by rw [show decide (V.bl i = V.bl j) = decide (i = j) by simp]; exact q _ _ G H rfl (Step.refl I) rfl⟩
theorem d_isB {i j : Bool} : ROD c cs bIs (.bl i) (.bl j) (.bl (decide (i = j))) := ROP.inl fun G H u v I R ra rb Q q => ⟨i, j, ra, rb, q _ _ G H rfl (Step.refl I) rfl⟩
theorem d_neg : RUP c cs bNeg (.int i) (fun d => d = .int (-i)) := fun G H u I R ra Q q => ⟨i, ra, q _ _ G H rfl (Step.refl I) rfl⟩
end
/-! data as the library knows it -/
mutual
def toP : Dat → PyData
  | .bl b => .bool b
  | .int i => .int i
  | .str x => .str x
  | .tup ds => .tuple (toPs ds)
  | .lst ds => .list (toPs ds)
  | _ => .none
def toPs : List Dat → List PyData
  | [] => []
  | d :: ds => toP d :: toPs ds
end
mutual
def plain : Dat → Bool
  | .non => true
  | .bl _ => true
  | .int _ => true
  | .str _ => true
  | .tup ds => plains ds
  | .lst ds => plains ds
  | _ => false
def plains : List Dat → Bool
  | [] => true
  | d :: ds => plain d && plains ds
end
section
variable {K : PySem.W.Frag} {H : Hp}
mutual
theorem Rep.dp : ∀ (d : Dat) (v : V), plain d = true → Rep K H d v → Dp K H v (toP d)
  | .non, v, _, h => by cases (show v = V.non from h); exact .non
  | .bl b, v, _, h => by cases (show v = V.bl b from h); exact .bl b
  | .int i, v, _, h => by cases (show v = V.int i from h); exact .int i
  | .str x, v, _, h => by cases (show v = V.str x from h); exact .str x
  | .tup ds, v, p, h => by
    obtain ⟨a, xs, rfl, h2, h3⟩ := h
    exact .tup (SqT.of h2) (Reps.dp ds xs p h3)
  | .lst ds, v, p, h => by
    obtain ⟨a, xs, rfl, h2, h3⟩ := h
    exact .lst h2 (Reps.dp ds xs p h3)
  | .obj u, v, p, h => by cases p
  | .ins C fs ds, v, p, h => by cases p
  | .dct ks ds, v, p, h => by cases p
  | .key k, v, p, h => by cases p
  | .dcT ks ds, v, p, h => by cases p
theorem Reps.dp : ∀ (ds : List Dat) (vs : List V), plains ds = true → Reps K H ds vs → DpAll K H vs (toPs ds)
  | [], vs, _, h => by cases (show vs = [] from h); exact .nil
  | d :: ds, vs, p, h => by
    obtain ⟨v, r, rfl, h2, h3⟩ := h
    obtain ⟨p1, p2⟩ := Bool.and_eq_true_iff.mp (show (plain d && plains ds) = true from p)
    exact .cons (Rep.dp d v p1 h2) (Reps.dp ds r p2 h3)
end
end
def shp (d : Dat) : Bool := plain d && SeqAt.shaped (toP d)
section
variable {c : Ct} {cs : Cells} {a b d : Dat} {P : Dat → Prop}
theorem d_eqD (h1 : shp a = true) (h2 : shp b = true) : ROD c cs (bEq c.K) a b (.bl (PyData.eqv (toP a) (toP b))) := ROP.inr fun G H u v I R ra rb Q q => by
  obtain ⟨p1, s1⟩ := Bool.and_eq_true_iff.mp h1
  obtain ⟨p2, s2⟩ := Bool.and_eq_true_iff.mp h2
  exact ⟨_, _, Rep.dp a u p1 (ra.mono I.ex), Rep.dp b v p2 (rb.mono I.ex), s1, s2, q _ _ G H rfl (Step.refl I) rfl⟩
theorem d_neD (h1 : shp a = true) (h2 : shp b = true) : ROD c cs (bNe c.K) a b (.bl (!PyData.eqv (toP a) (toP b))) := ROP.inr fun G H u v I R ra rb Q q => by
  obtain ⟨p1, s1⟩ := Bool.and_eq_true_iff.mp h1
  obtain ⟨p2, s2⟩ := Bool.and_eq_true_iff.mp h2
  exact ⟨_, _, Rep.dp a u p1 (ra.mono I.ex), Rep.dp b v p2 (rb.mono I.ex), s1, s2, q _ _ G H rfl (Step.refl I) rfl⟩
def rpr (d : Dat) : Bool := plain d && (toP d).showable && !(toP d).hasDict && decide ((toP d).depth ≤ 60)
theorem d_repr {ds : List Dat} (h : rpr (.lst ds) = true) (hl : (toP (.lst ds)).shown.length ≤ sizeLine) : RCP c cs (rReprD c.K) [.lst ds] (fun d => d = .str (toP (.lst ds)).shown) := fun G H xs I R rs Q q => by
  obtain ⟨x, rfl, rx⟩ := rs.only
  obtain ⟨h, h4⟩ := Bool.and_eq_true_iff.mp h
  obtain ⟨h, h3⟩ := Bool.and_eq_true_iff.mp h
  obtain ⟨h1, h2⟩ := Bool.and_eq_true_iff.mp h
  have dp := Rep.dp _ x h1 (rx.mono I.ex)
  obtain ⟨a, vs, rfl, _⟩ := rx
  exact ⟨a, _, rfl, dp, h2, by simpa using h3, of_decide_eq_true h4, hl, q _ _ G H rfl (Step.refl I) rfl⟩
end
end DV

set_option autoImplicit false
set_option linter.all false
set_option maxRecDepth 100000
set_option maxHeartbeats 2000000
namespace DV
open PySem PySem.Spec PyProof.Rows L2
/-! ### readings of built-in calls -/
def bAbs : List V → Hp → VK → Prop := fun xs H Q => ∃ i, xs = [.int i] ∧ Q (.int (if i < 0 then -i else i)) H
def bMax : List V → Hp → VK → Prop := fun xs H Q => ∃ i j, xs = [.int i, .int j] ∧ Q (.int (if j > i then j else i)) H
def bMin : List V → Hp → VK → Prop := fun xs H Q => ∃ i j, xs = [.int i, .int j] ∧ Q (.int (if j < i then j else i)) H
def bInt : List V → Hp → VK → Prop := fun xs H Q => (∃ i, xs = [.int i] ∧ Q (.int i) H) ∨ ∃ k, xs = [.bl k] ∧ Q (.int (if k then 1 else 0)) H
def bStr : List V → Hp → VK → Prop := fun xs H Q => ∃ i, xs = [.int i] ∧ i.natAbs.log2 < 1920 ∧ Q (.str (toString i)) H
def bLen (K : PySem.W.Frag) : List V → Hp → VK → Prop := fun xs H Q => ∃ x n, xs = [x] ∧ LenV K x H n ∧ Q (.int n) H
def bTup (K : PySem.W.Frag) : List V → Hp → VK → Prop := fun xs H Q => ∃ p ys, xs = [.ref p] ∧ ((SqL K H p ys ∧ ∀ l, H l = none → Q (.ref l) (upd H l (.tup ys))) ∨ (SqT K H p ys ∧ Q (.ref p) H))
def bDivmod : List V → Hp → VK → Prop := fun xs H Q => ∃ i j, xs = [.int i, .int j] ∧ CDivP i j ∧ ∀ p, H p = none → Q (.ref p) (upd H p (.tup [.int (i / j), .int (i % j)]))
def bIsi (K : PySem.W.Frag) : List V → Hp → VK → Prop := fun xs H Q => rIsi K xs H Q ∨ rIsiT K xs H Q
section
variable {X : Cx}
theorem k_abs : CallR X (.builtin "abs") bAbs := call_abs
theorem k_max (hc : X.calm = true) : CallR X (.builtin "max") bMax := call_max2 hc
theorem k_min (hc : X.calm = true) : CallR X (.builtin "min") bMin := call_min2 hc
theorem k_int : CallR X (.type "int") bInt := call_int1
theorem k_str : CallR X (.type "str") bStr := call_str_int
theorem k_len : CallR X (.builtin "len") (bLen X.K) := call_len
theorem k_tup : CallR X (.type "tuple") (bTup X.K) := call_tuple_of
theorem k_divmod : CallR X (.builtin "divmod") bDivmod := call_divmodW
theorem k_isi : CallR X (.builtin "isinstance") (bIsi X.K) := CallR.or call_isi call_isiT
end
/-! ### over data -/
section
variable {c : Ct} {cs : Cells} {a b d : Dat} {P : Dat → Prop} {i j : Int} {ds : List Dat} {te : TE} {Δ : Sts}
theorem Reps.atI {K : PySem.W.Frag} {H : Hp} {vs : List V} (r : Reps K H ds vs) (h : L2.atI ds i = some d) : ∃ v, L2.atI vs i = some v ∧ Rep K H d v := by
  unfold L2.atI at h ⊢
  rw [r.len]
  cases e : L2.ixN ds.length i with
  | none => rw [e] at h; cases h
  | some j =>
    rw [e] at h
    exact r.get h
theorem d_ixL (h : L2.atI ds i = some d) : ROD c cs (rIx c.K) (.lst ds) (.int i) d := fun G H u v I R ra rb Q q => by
  obtain ⟨p, xs, rfl, hq, rs⟩ := ra
  obtain ⟨w, h1, h2⟩ := rs.atI h
  exact .inl ⟨p, xs, i, w, rfl, rb, ex_l I.ex hq, h1, q d w G H rfl (Step.refl I) h2⟩
theorem d_ixT (h : L2.atI ds i = some d) : ROD c cs (rIx c.K) (.tup ds) (.int i) d := fun G H u v I R ra rb Q q => by
  obtain ⟨p, xs, rfl, hq, rs⟩ := ra
  obtain ⟨w, h1, h2⟩ := rs.atI h
  exact .inr (.inl ⟨p, xs, i, w, rfl, rb, ex_t I.ex hq, h1, q d w G H rfl (Step.refl I) h2⟩)
theorem d_abs : RCD c cs bAbs [.int i] (.int i.natAbs) := fun G H xs I R rs Q q => by
  obtain ⟨x, rfl, rx⟩ := rs.only
  rw [show x = V.int i from rx]
  refine ⟨i, rfl, ?_⟩
  rw [show (if i < 0 then -i else i) = (i.natAbs : Int) by split <;> omega]
  exact q _ _ G H rfl (Step.refl I) rfl
theorem d_max : RCD c cs bMax [.int i, .int j] (.int (max i j)) := fun G H xs I R rs Q q => by
  obtain ⟨x, y, rfl, rx, ry⟩ := rs.two
  rw [show x = V.int i from rx, show y = V.int j from ry]
  refine ⟨i, j, rfl, ?_⟩
  rw [show (if j > i then j else i) = max i j by split <;> omega]
  exact q _ _ G H rfl (Step.refl I) rfl
theorem d_min : RCD c cs bMin [.int i, .int j] (.int (min i j)) := fun G H xs I R rs Q q => by
  obtain ⟨x, y, rfl, rx, ry⟩ := rs.two
  rw [show x = V.int i from rx, show y = V.int j from ry]
  refine ⟨i, j, rfl, ?_⟩
  rw [show (if j < i then j else i) = min i j by split <;> omega]
  exact q _ _ G H rfl (Step.refl I) rfl
theorem d_intI : RCD c cs bInt [.int i] (.int i) := fun G H xs I R rs Q q => by
  obtain ⟨x, rfl, rx⟩ := rs.only
  rw [show x = V.int i from rx]
  exact .inl ⟨i, rfl, q _ _ G H rfl (Step.refl I) rfl⟩
theorem d_intB {k : Bool} : RCD c cs bInt [.bl k] (.int (if k then 1 else 0)) := fun G H xs I R rs Q q => by
  obtain ⟨x, rfl, rx⟩ := rs.only
  rw [show x = V.bl k from rx]
  exact .inr ⟨k, rfl, q _ _ G H rfl (Step.refl I) rfl⟩
/-- an int's text -/
def txt (i : Int) : Str := Str.ofString (toString i)
theorem d_str (h : i.natAbs.log2 < 1920) : RCD c cs bStr [.int i] (.str (txt i)) := fun G H xs I R rs Q q => by
  obtain ⟨x, rfl, rx⟩ := rs.only
  rw [show x = V.int i from rx]
  exact ⟨i, rfl, h, q (.str (txt i)) _ G H rfl (Step.refl I) rfl⟩
theorem d_lenL : RCD c cs (bLen c.K) [.lst ds] (.int ds.length) := fun G H xs I R rs Q q => by
  obtain ⟨x, rfl, a, vs, rfl, h, r⟩ := rs.only
  exact ⟨_, vs.length, rfl, .inl ⟨vs, ex_l I.ex h, rfl⟩, q _ _ G H rfl (Step.refl I) (by rw [r.len]; rfl)⟩
theorem d_lenT : RCD c cs (bLen c.K) [.tup ds] (.int ds.length) := fun G H xs I R rs Q q => by
  obtain ⟨x, rfl, a, vs, rfl, h, r⟩ := rs.only
  exact ⟨_, vs.length, rfl, .inr ⟨vs, ex_t I.ex h, rfl⟩, q _ _ G H rfl (Step.refl I) (by rw [r.len]; rfl)⟩
theorem d_tupL : RCD c cs (bTup c.K) [.lst ds] (.tup ds) := fun G H xs I R rs Q q => by
  obtain ⟨x, rfl, a, vs, rfl, h, r⟩ := rs.only
  refine ⟨a, vs, rfl, .inl ⟨ex_l I.ex h, fun p hp => ?_⟩⟩
  have n := Step.new I (o := .tup vs) hp
  exact q _ _ _ _ rfl n ⟨p, vs, rfl, upd_same, r.mono n.g⟩
theorem d_tupT : RCD c cs (bTup c.K) [.tup ds] (.tup ds) := fun G H xs I R rs Q q => by
  obtain ⟨x, rfl, a, vs, rfl, h, r⟩ := rs.only
  exact ⟨a, vs, rfl, .inr ⟨ex_t I.ex h, q _ _ G H rfl (Step.refl I) ⟨a, vs, rfl, h, r⟩⟩⟩
theorem d_divmod (h : CDivP i j) : RCD c cs bDivmod [.int i, .int j] (.tup [.int (i / j), .int (i % j)]) := fun G H xs I R rs Q q => by
  obtain ⟨x, y, rfl, rx, ry⟩ := rs.two
  rw [show x = V.int i from rx, show y = V.int j from ry]
  refine ⟨i, j, rfl, h, fun p hp => ?_⟩
  have n := Step.new I (o := .tup [.int (i / j), .int (i % j)]) hp
  exact q _ _ _ _ rfl n ⟨p, _, rfl, upd_same, _, _, rfl, rfl, _, _, rfl, rfl, rfl⟩
theorem d_all {bs : List Bool} : RCD c cs (rAll c.K) [.lst (bs.map Dat.bl)] (.bl (bs.all id)) := fun G H xs I R rs Q q => by
  obtain ⟨x, rfl, a, vs, rfl, h, r⟩ := rs.only
  have e : vs = bs.map V.bl := by
    clear q R h rs
    induction bs generalizing vs with
    | nil => exact r
    | cons b bs ih =>
      obtain ⟨v, rest, rfl, h2, h3⟩ := r
      rw [ih rest h3, show v = V.bl b from h2]
      rfl
  subst e
  exact ⟨a, bs, rfl, ex_l I.ex h, q _ _ G H rfl (Step.refl I) rfl⟩
/-- x[::-1] of a list -/
theorem d_revL (h : EVD c cs Δ te (.lst ds)) : EVD c cs Δ (tRevL c.K te) (.lst ds.reverse) := fun σ G H s I R Q q =>
  h σ G H s I R _ fun d v G1 H1 e s1 rd => by
    subst e
    obtain ⟨a, xs, rfl, hq, rs⟩ := rd
    refine ⟨a, xs, rfl, ex_l s1.i hq, fun p hp => ?_⟩
    have n := Step.new (s1.inn I) (o := .lst xs.reverse) hp
    exact q _ _ _ _ rfl (s1.trans n) ⟨p, _, rfl, SqL.of upd_same, (rs.mono n.g).rev⟩
/-! isinstance -/
/-- what data's type is -/
def tyD : Dat → Value
  | .non => .type "NoneType"
  | .bl _ => .type "bool"
  | .int _ => .type "int"
  | .str _ => .type "str"
  | .tup _ => .type "tuple"
  | .lst _ => .type "list"
  | .ins C _ _ => .ref C
  | .dct _ _ => .type "dict"
  | .key _ => .type "tuple"
  | .dcT _ _ => .type "dict"
  | .obj _ => .none
/-- what isinstance asks of a class of instances -/
structure IsiC (K : PySem.W.Frag) (C : Addr) : Prop where
  cl : Cls K C
  ha : PySem.W.findIn K (.ref C) "__class__" = some (some (.builtin "object.__class__"))
  hn : PySem.W.specialIn K (.builtin "object.__class__") "__get__" = some (some (.builtin "getset_descriptor.__get__"))
  htk : PySem.W.takesIn K (.builtin "object.__class__") = some true
  hm : PySem.W.mroIn K C (.type "object") = some true
def isiOk (K : PySem.W.Frag) : Dat → Prop
  | .ins C _ _ => IsiC K C
  | .obj _ => False
  | .dcT _ _ => False
  | _ => True
theorem tyx_l {K : PySem.W.Frag} {H : Hp} {a : Addr} {xs : List V} (h : SqL K H a xs) : TyX K H (.ref a) (.type "list") := by
  rcases h with (h | ⟨o, h⟩) | ⟨o, its, n, h1, h2, _⟩
  · exact .base (.lst h)
  · exact .base (.frz h)
  · exact .kList h1 h2
theorem tyx_t {K : PySem.W.Frag} {H : Hp} {a : Addr} {xs : List V} (h : SqT K H a xs) : TyX K H (.ref a) (.type "tuple") := by
  rcases h with (h | ⟨o, h⟩) | ⟨o, its, n, h1, h2, _⟩
  · exact .base (.tup h)
  · exact .fTuple h
  · exact .kTuple h1 h2
theorem Rep.tyx {K : PySem.W.Frag} {H : Hp} {v : V} (hk : isiOk K d) (h : Rep K H d v) : TyX K H v (tyD d) := by
  cases d with
  | non => cases (show v = V.non from h); exact .base .non
  | bl b => cases (show v = V.bl b from h); exact .base (.bl b)
  | int i => cases (show v = V.int i from h); exact .base (.int i)
  | str x => cases (show v = V.str x from h); exact .base (.str x)
  | tup ds => obtain ⟨a, xs, rfl, h2, _⟩ := h; exact tyx_t (SqT.of h2)
  | lst ds => obtain ⟨a, xs, rfl, h2, _⟩ := h; exact tyx_l h2
  | ins C fs ds => obtain ⟨a, dx, xs, rfl, h2, _⟩ := h; exact .base (.ins h2 hk.cl hk.ha hk.hn hk.htk hk.hm)
  | dct ks ds => obtain ⟨a, xs, rfl, h2, _⟩ := h; exact .base (.dK h2)
  | obj u => exact hk.elim
  | key k => obtain ⟨a, rfl, h2⟩ := h; exact .base (.tup h2)
  | dcT ks ds => exact hk.elim
theorem d_isiT {n : String} {k : Bool} (hk : isiOk c.K d) (h : PySem.W.kitOne c.K (tyD d) (.type n) = some k) : RCD c cs (bIsi c.K) [d, .obj (.ty n)] (.bl k) := fun G H xs I R rs Q q => by
  obtain ⟨x, y, rfl, rx, ry⟩ := rs.two
  rw [show y = V.ty n from ry]
  exact .inl ⟨x, _, _, _, k, rfl, .ty n, Rep.tyx hk (rx.mono I.ex), h, q _ _ G H rfl (Step.refl I) rfl⟩
theorem d_isiC {C : Addr} {k : Bool} (hk : isiOk c.K d) (h : PySem.W.kitOne c.K (tyD d) (.ref C) = some k) : RCD c cs (bIsi c.K) [d, .obj (.ref C)] (.bl k) := fun G H xs I R rs Q q => by
  obtain ⟨x, y, rfl, rx, ry⟩ := rs.two
  rw [show y = V.ref C from ry]
  exact .inl ⟨x, _, _, _, k, rfl, .own C, Rep.tyx hk (rx.mono I.ex), h, q _ _ G H rfl (Step.refl I) rfl⟩
/-- isinstance(e, (c1, .., cn)): the tuple is written there -/
theorem ev_isiT {tr : TA} {ns : List String} {k : Bool} (ha : EVD c cs Δ te d) (ht : EVL c cs Δ tr (ns.map fun n => .obj (.ty n))) (hl : ns.length ≤ 100000) (hk : isiOk c.K d) (h : PySem.W.kitAny c.K (tyD d) (ns.map Value.type) = some k) :
    EVD c cs Δ (tCB (bIsi c.K) (tCons te (tCons (tTup tr) tNil))) (.bl k) := fun σ G H s I R Q q =>
  ha σ G H s I R _ fun d' v G1 H1 e s1 rd => by
    subst e
    refine ht σ G1 H1 (s.mono s1.g) (s1.inn I) (R.on s1) _ fun ds' vs G2 H2 e s2 rv => ?_
    subst e
    refine ⟨Nat.le_trans (by rw [rv.len, List.length_map]; exact hl) (by decide), fun p hp => ?_⟩
    have n := Step.new (s2.inn (s1.inn I)) (o := .tup vs) hp
    have e : vs = ns.map V.ty := by
      clear h ht n hp
      induction ns generalizing vs with
      | nil => exact rv
      | cons b bs ih =>
        obtain ⟨v, rest, rfl, h2, h3⟩ := rv
        rw [ih (by simp at hl; omega) rest h3, show v = V.ty b from h2]
        rfl
    have pr : Paired ClsV vs (ns.map Value.type) := by
      rw [e]
      clear e h ht n hp rv
      induction ns with
      | nil => exact .nil
      | cons b bs ih => exact .cons (.ty b) (ih (by simp at hl; omega))
    exact .inr ⟨v, p, vs, _, ns.map Value.type, k, rfl, upd_same, pr, Rep.tyx hk ((rd.mono s2.g).mono (n.g.trans n.i)), h, q _ _ _ _ rfl ((s1.trans s2).trans n) rfl⟩
/-! f-strings -/
theorem d_fmtS {z : Str} (h : EVD c cs Δ te (.str z)) (hz : z.length ≤ sizeLine) : EVD c cs Δ (tFmt te) (.str z) := fun σ G H s I R Q q =>
  h σ G H s I R _ fun d v G1 H1 e s1 rd => by
    subst e
    exact .inl ⟨z, rd, hz, q _ _ G1 H1 rfl s1 rfl⟩
theorem d_fmtI (h : EVD c cs Δ te (.int i)) (hz : i.natAbs.log2 < 1920) : EVD c cs Δ (tFmt te) (.str (txt i)) := fun σ G H s I R Q q =>
  h σ G H s I R _ fun d v G1 H1 e s1 rd => by
    subst e
    exact .inr ⟨i, rd, hz, q (.str (txt i)) _ G1 H1 rfl s1 rfl⟩
/-- the texts one behind the other -/
def EVJ (c : Ct) (cs : Cells) (Δ : Sts) (ts : List TE) (acc out : Str) : Prop :=
  ∀ σ G H, Sig c.K G σ Δ → Inn c.K c.W cs G H → Raises c G H → ∀ Q : Str → Hp → Prop, (∀ G2 H2, Step c.W G H G2 H2 → Q out H2) → tJs ts acc σ H Q
theorem j_nil {acc : Str} : EVJ c cs Δ [] acc acc := fun σ G H s I R Q q => q G H (Step.refl I)
theorem j_cons {acc z out : Str} {ts : List TE} (h : EVD c cs Δ te (.str z)) (hz : (acc ++ z).length ≤ sizeLine) (hr : EVJ c cs Δ ts (acc ++ z) out) : EVJ c cs Δ (te :: ts) acc out := fun σ G H s I R Q q =>
  h σ G H s I R _ fun d v G1 H1 e s1 rd => by
    subst e
    exact ⟨z, rd, hz, hr σ G1 H1 (s.mono s1.g) (s1.inn I) (R.on s1) Q fun G2 H2 s2 => q G2 H2 (s1.trans s2)⟩
theorem d_joined {ts : List TE} {out : Str} (h : EVJ c cs Δ ts Str.empty out) : EVD c cs Δ (fun σ H Q => tJs ts Str.empty σ H fun out H1 => Q (.str out) H1) (.str out) := fun σ G H s I R Q q =>
  h σ G H s I R _ fun G2 H2 s2 => q _ _ G2 H2 rfl s2 rfl
end
end DV

set_option autoImplicit false
set_option linter.all false
set_option maxRecDepth 100000
set_option maxHeartbeats 2000000
/-! Families of promises: for each x of α the data that come in, what must hold, the data that come out. -/
namespace DV
open PySem PySem.Spec PyProof.Rows L2
structure FS (α : Type) where
  arg : α → List Dat
  ok : Wld → α → Prop := fun _ _ => True
  res : α → Dat → Prop
  xp : α → Exc → Prop := fun _ _ => False
def FS.sp {α : Type} (S : FS α) (K : PySem.W.Frag) : Sp := fun vs H Q E => ∃ x, FSp K (fun W ds => ds = S.arg x ∧ S.ok W x) (fun _ => S.res x) (fun _ => S.xp x) vs H Q E
structure IS (α : Type) where
  arg : α → List Dat
  ok : Wld → α → Prop := fun _ _ => True
  fs : List Str
  res : α → List Dat → Prop
  xp : α → Exc → Prop := fun _ _ => False
def IS.sp {α : Type} (S : IS α) (C : Addr) (K : PySem.W.Frag) : Sp := fun vs H Q E => ∃ x, ISp K C (fun W ds => ds = S.arg x ∧ S.ok W x) S.fs (fun _ => S.res x) (fun _ => S.xp x) vs H Q E
section
variable {α : Type} {S : FS α} {I : IS α} {K : PySem.W.Frag} {N : List Str} {t : TS} {vs : List V} {H : Hp} {Q : VK} {E : XK} {C : Addr} {n : Nat}
theorem FS.len (h : ∀ x, (S.arg x).length = n) : ∀ vs H Q E, S.sp K vs H Q E → vs.length = n := fun vs H Q E ⟨x, h'⟩ => FSp.len (fun W ds p => by rw [p.1]; exact h x) vs H Q E h'
theorem IS.len (h : ∀ x, (I.arg x).length + 1 = n) : ∀ vs H Q E, I.sp C K vs H Q E → vs.length = n := fun vs H Q E ⟨x, h'⟩ => ISp.len (fun W ds p => by rw [p.1]; exact h x) vs H Q E h'
theorem FS.body (h : S.sp K vs H Q E) (b : ∀ x W, S.ok W x → STS ⟨K, W, E, S.xp x⟩ [] ((S.arg x).map some ++ List.replicate (N.length - (S.arg x).length) none) t { ret := S.res x, nx := fun _ _ => S.res x .non }) : t { nx := fun _ H' => Q .non H', rt := Q } (L2.start N vs) H := by
  obtain ⟨x, h⟩ := h
  refine FSp.body h fun W ds p => ?_
  obtain ⟨rfl, ok⟩ := p
  exact b x W ok
theorem IS.body (h : I.sp C K vs H Q E) (b : ∀ x W p dx, I.ok W x → STS ⟨K, W, E, I.xp x⟩ [(p, .ins C dx [] [])] ((some (.obj (.ref p)) :: (I.arg x).map some) ++ List.replicate (N.length - ((I.arg x).length + 1)) none) t { ret := fun _ => False, nx := fun cs _ => ∃ es, cs = [(p, .ins C dx I.fs es)] ∧ I.res x es }) : t { nx := fun _ H' => Q .non H', rt := Q } (L2.start N vs) H := by
  obtain ⟨x, h⟩ := h
  refine ISp.body h fun W ds p dx pr => ?_
  obtain ⟨rfl, ok⟩ := pr
  exact b x W p dx ok
end
/-! calls -/
abbrev idv : List V → List V → List V := fun vs _ => vs
section
variable {α : Type} {S : FS α} {SI : IS α} {c : Ct} {cs : Cells} {Δ : Sts} {to : TE} {tr tk : TA} {P : Dat → Prop} {es fs : List Dat} {E : XK} {n m : Nat} {gV : List V → List V → List V} {x : α} {C : Addr}
abbrev XO (c : Ct) (E : XK) (xp : Exc → Prop) : Prop := (c.E = E ∧ ∀ x, xp x → c.X x) ∨ ∀ x, ¬ xp x
theorem FS.run {G H : Hp} {vs : List V} {Q : VK} (I : Inn c.K c.W cs G H) (R : Raises c G H) (r : Reps c.K G (S.arg x) vs) (ok : S.ok c.W x) (hx : XO c E (S.xp x)) (q : ∀ d v G2 H2, S.res x d → Step c.W G H G2 H2 → Rep c.K G2 d v → Q v H2) : S.sp c.K vs H Q E :=
  ⟨x, sp_run I R r ⟨rfl, ok⟩ hx q⟩
theorem IS.run {G H : Hp} {ws : List V} {p dx : Addr} {Q : VK} (I : Inn c.K c.W cs G H) (R : Raises c G H) (r : Reps c.K G (SI.arg x) ws) (ok : SI.ok c.W x) (hxp : XO c E (SI.xp x)) (hx : H p = none) (hd : H dx = none) (ne : dx ≠ p)
    (q : ∀ d v G2 H2, (∃ es, d = .ins C SI.fs es ∧ SI.res x es) → Step c.W G H G2 H2 → Rep c.K G2 d v → Q v H2) : SI.sp C c.K (.ref p :: ws) (upd (upd H dx (.own p)) p (.ins C dx [])) (fun v H2 => v = .non ∧ Q (.ref p) H2) E :=
  ⟨x, mk_run I R r ⟨rfl, ok⟩ hxp hx hd ne q⟩
/-- f(e, .., k = v, ..) -/
theorem evp_fs {PA : List Dat → Prop} (ha : EVA c cs Δ tr PA) (hk : EVL c cs Δ tk fs) (h : ∀ es, PA es → es.length = n ∧ ∃ x, Gives c.K gV es fs (S.arg x) ∧ S.ok c.W x ∧ XO c E (S.xp x) ∧ ∀ d, S.res x d → P d) (h2 : fs.length = m) : EVP c cs Δ (tG (rFn n m (S.sp c.K) gV E) tr tk) P := fun σ G H s I R Q k =>
  ha σ G H s I R _ fun es' vs G1 H1 pa s1 rs => hk σ G1 H1 (s.mono s1.g) (s1.inn I) (R.on s1) _ fun fs' zs G2 H2 e2 s2 rz => by
    subst e2
    obtain ⟨h1, x, hg, ok, hx, hq⟩ := h es' pa
    refine ⟨by rw [rs.len, h1], by rw [rz.len, h2], ?_⟩
    exact FS.run (s2.inn (s1.inn I)) ((R.on s1).on s2) (hg G2 vs zs (rs.mono s2.g) rz) ok hx fun d v G3 H3 pd s3 => k d v G3 H3 (hq d pd) ((s1.trans s2).trans s3)
theorem ev_fs (x : α) (ha : EVL c cs Δ tr es) (hk : EVL c cs Δ tk fs) (hg : Gives c.K gV es fs (S.arg x)) (ok : S.ok c.W x) (hx : XO c E (S.xp x)) (h1 : es.length = n := by rfl) (h2 : fs.length = m := by rfl) : EVP c cs Δ (tG (rFn n m (S.sp c.K) gV E) tr tk) (S.res x) :=
  evp_fs ha hk (fun _ e => by subst e; exact ⟨h1, x, hg, ok, hx, fun _ h => h⟩) h2
theorem evp_fsM {mm : Str} {fl : List Str} {Pf : List Dat → Prop} {PA : List Dat → Prop} (ho : EVP c cs Δ to fun d => ∃ xs, d = .ins C fl xs ∧ Pf xs) (hm : ixOf mm fl = none) (ha : ∀ xs, Pf xs → EVA c cs Δ tr PA) (hk : EVL c cs Δ tk fs)
    (h : ∀ xs es, Pf xs → PA es → es.length + 1 = n ∧ ∃ x, Gives c.K gV (.ins C fl xs :: es) fs (S.arg x) ∧ S.ok c.W x ∧ XO c E (S.xp x) ∧ ∀ d, S.res x d → P d) (h2 : fs.length = m) : EVP c cs Δ (tGM C mm (rFn n m (S.sp c.K) gV E) to tr tk) P := fun σ G H s I R Q k =>
  ho σ G H s I R _ fun d v G1 H1 ⟨xs, e, pf⟩ s1 rd => by
    subst e
    obtain ⟨a, dx, ws, rfl, hg, hl, rs⟩ := rd
    refine ⟨a, dx, _, rfl, s1.i _ _ hg, ixOf_none hm, ?_⟩
    refine ha xs pf σ G1 H1 (s.mono s1.g) (s1.inn I) (R.on s1) _ fun es' vs G2 H2 pa s2 rv => ?_
    refine hk σ G2 H2 ((s.mono s1.g).mono s2.g) (s2.inn (s1.inn I)) ((R.on s1).on s2) _ fun fs' zs G3 H3 e3 s3 rz => ?_
    subst e3
    obtain ⟨h1, x, hgv, ok, hx, hq⟩ := h xs es' pf pa
    refine ⟨by rw [List.length_cons, rv.len, h1], by rw [rz.len, h2], ?_⟩
    have r1 : Reps c.K G3 (.ins C fl xs :: es') (.ref a :: vs) := ⟨_, vs, rfl, ⟨a, dx, ws, rfl, s3.g _ _ (s2.g _ _ hg), hl, (rs.mono s2.g).mono s3.g⟩, rv.mono s3.g⟩
    exact FS.run (s3.inn (s2.inn (s1.inn I))) (((R.on s1).on s2).on s3) (hgv G3 _ zs r1 rz) ok hx fun d v G4 H4 pd s4 => k d v G4 H4 (hq d pd) (((s1.trans s2).trans s3).trans s4)
theorem ev_fsM (x : α) {mm : Str} {fl : List Str} {xs : List Dat} (ho : EVD c cs Δ to (.ins C fl xs)) (ha : EVL c cs Δ tr es) (hk : EVL c cs Δ tk fs) (hg : Gives c.K gV (.ins C fl xs :: es) fs (S.arg x)) (ok : S.ok c.W x) (hx : XO c E (S.xp x))
    (hm : ixOf mm fl = none := by decide +kernel) (h1 : es.length + 1 = n := by rfl) (h2 : fs.length = m := by rfl) : EVP c cs Δ (tGM C mm (rFn n m (S.sp c.K) gV E) to tr tk) (S.res x) :=
  evp_fsM (Pf := fun y => y = xs) (PA := fun y => y = es) (ho.imp fun d e => ⟨xs, e, rfl⟩) hm (fun _ _ => ha) hk (fun _ _ e1 e2 => by subst e1 e2; exact ⟨h1, x, hg, ok, hx, fun _ h => h⟩) h2
theorem ev_fsP (x : α) {fl : List Str} {xs : List Dat} (ho : EVD c cs Δ to (.ins C fl xs)) (hg : S.arg x = [.ins C fl xs]) (ok : S.ok c.W x) (hx : XO c E (S.xp x)) : EVP c cs Δ (tPropG C (S.sp c.K) E to) (S.res x) := fun σ G H s I R Q k =>
  ho σ G H s I R _ fun d v G1 H1 e s1 rd => by
    subst e
    obtain ⟨a, dx, ws, rfl, hgt, hl, rs⟩ := rd
    refine ⟨a, dx, _, rfl, s1.i _ _ hgt, ?_⟩
    exact FS.run (s1.inn I) (R.on s1) (by rw [hg]; exact Reps.one ⟨a, dx, ws, rfl, hgt, hl, rs⟩) ok hx fun d v G3 H3 pd s3 => k d v G3 H3 pd (s1.trans s3)
theorem ev_fsC (x : α) (ho : EVD c cs Δ to (.obj (.ref C))) (ha : EVL c cs Δ tr es) (hk : EVL c cs Δ tk fs) (hg : Gives c.K gV (.obj (.ref C) :: es) fs (S.arg x)) (ok : S.ok c.W x) (hx : XO c E (S.xp x)) (h1 : es.length + 1 = n := by rfl) (h2 : fs.length = m := by rfl) :
    EVP c cs Δ (tGC C (rFn n m (S.sp c.K) gV E) to tr tk) (S.res x) := fun σ G H s I R Q k =>
  ho σ G H s I R _ fun d v G1 H1 e s1 rd => by
    subst e
    refine ⟨rd, ha σ G1 H1 (s.mono s1.g) (s1.inn I) (R.on s1) _ fun es' vs G2 H2 e2 s2 rv => ?_⟩
    refine hk σ G2 H2 ((s.mono s1.g).mono s2.g) (s2.inn (s1.inn I)) ((R.on s1).on s2) _ fun fs' zs G3 H3 e3 s3 rz => ?_
    subst e2 e3
    refine ⟨by rw [List.length_cons, rv.len, h1], by rw [rz.len, h2], ?_⟩
    have r1 : Reps c.K G3 (.obj (.ref C) :: es') (.ref C :: vs) := ⟨_, vs, rfl, rfl, rv.mono s3.g⟩
    exact FS.run (s3.inn (s2.inn (s1.inn I))) (((R.on s1).on s2).on s3) (hg G3 _ zs r1 rz) ok hx fun d v G4 H4 pd s4 => k d v G4 H4 pd (((s1.trans s2).trans s3).trans s4)
/-- C(e, .., k = v, ..) -/
theorem ev_is (x : α) (ha : EVL c cs Δ tr es) (hk : EVL c cs Δ tk fs) (hg : GivesI c.K gV es fs (SI.arg x)) (ok : SI.ok c.W x) (hx : XO c E (SI.xp x)) (h1 : es.length = n := by rfl) (h2 : fs.length = m := by rfl) :
    EVP c cs Δ (tG (rMk C n m (SI.sp C c.K) gV E) tr tk) (fun d => ∃ xs, d = .ins C SI.fs xs ∧ SI.res x xs) := fun σ G H s I R Q k =>
  ha σ G H s I R _ fun es' vs G1 H1 e1 s1 rs => hk σ G1 H1 (s.mono s1.g) (s1.inn I) (R.on s1) _ fun fs' zs G2 H2 e2 s2 rz => by
    subst e1 e2
    refine ⟨by rw [rs.len, h1], by rw [rz.len, h2], fun p dx hx0 hd0 ne => ?_⟩
    obtain ⟨ws, ew, rw_⟩ := hg G2 p vs zs (rs.mono s2.g) rz
    rw [ew]
    exact IS.run (s2.inn (s1.inn I)) ((R.on s1).on s2) rw_ ok hx hx0 hd0 ne fun d v G3 H3 pd s3 => k _ v G3 H3 pd ((s1.trans s2).trans s3)
/-! operators by methods -/
variable {fl gl : List Str} {xs ys : List Dat} {i : Int}
theorem d_ownC (x : α) (hg : S.arg x = [.ins C fl xs, .ins C gl ys]) (ok : S.ok c.W x) (hx : XO c E (S.xp x)) : ROP c cs (rOwnC C (rFn 2 0 (S.sp c.K) idv E)) (.ins C fl xs) (.ins C gl ys) (S.res x) := fun G H u v I R ra rb Q q => by
  obtain ⟨a, dx, ws, rfl, h1, h2, h3⟩ := ra
  obtain ⟨b, dy, us, rfl, h4, h5, h6⟩ := rb
  refine ⟨a, dx, _, b, dy, _, rfl, I.ex _ _ h1, rfl, I.ex _ _ h4, rfl, rfl, ?_⟩
  exact FS.run I R (by rw [hg]; exact ⟨_, _, rfl, ⟨a, dx, ws, rfl, h1, h2, h3⟩, Reps.one ⟨b, dy, us, rfl, h4, h5, h6⟩⟩) ok hx q
theorem d_ownI (x : α) (hg : S.arg x = [.ins C fl xs, .int i]) (ok : S.ok c.W x) (hx : XO c E (S.xp x)) : ROP c cs (rOwnI C (rFn 2 0 (S.sp c.K) idv E)) (.ins C fl xs) (.int i) (S.res x) := fun G H u v I R ra rb Q q => by
  obtain ⟨a, dx, ws, rfl, h1, h2, h3⟩ := ra
  refine ⟨a, dx, _, i, rfl, I.ex _ _ h1, rb, rfl, rfl, ?_⟩
  exact FS.run I R (by rw [hg]; exact ⟨_, _, rfl, ⟨a, dx, ws, rfl, h1, h2, h3⟩, Reps.one rb⟩) ok hx q
theorem d_ownR (x : α) (hg : S.arg x = [.ins C fl xs, .int i]) (ok : S.ok c.W x) (hx : XO c E (S.xp x)) : ROP c cs (rOwnR C (rFn 2 0 (S.sp c.K) idv E)) (.int i) (.ins C fl xs) (S.res x) := fun G H u v I R rb ra Q q => by
  obtain ⟨a, dx, ws, rfl, h1, h2, h3⟩ := ra
  refine ⟨a, dx, _, i, rfl, I.ex _ _ h1, rb, rfl, rfl, ?_⟩
  exact FS.run I R (by rw [hg]; exact ⟨_, _, rfl, ⟨a, dx, ws, rfl, h1, h2, h3⟩, Reps.one rb⟩) ok hx q
theorem d_own1 (x : α) (hg : S.arg x = [.ins C fl xs]) (ok : S.ok c.W x) (hx : XO c E (S.xp x)) : RUP c cs (rOwn1 C (rFn 1 0 (S.sp c.K) idv E)) (.ins C fl xs) (S.res x) := fun G H u I R ra Q q => by
  obtain ⟨a, dx, ws, rfl, h1, h2, h3⟩ := ra
  refine ⟨a, dx, _, rfl, I.ex _ _ h1, rfl, rfl, ?_⟩
  exact FS.run I R (by rw [hg]; exact Reps.one ⟨a, dx, ws, rfl, h1, h2, h3⟩) ok hx q
theorem d_ownNe {k : Bool} (x : α) (hg : S.arg x = [.ins C fl xs, .ins C gl ys]) (ok : S.ok c.W x) (hx : XO c E (S.xp x)) (hk : ∀ d, S.res x d → d = .bl k) : ROD c cs (rOwnNe C (rFn 2 0 (S.sp c.K) idv E)) (.ins C fl xs) (.ins C gl ys) (.bl (!k)) := fun G H u v I R ra rb Q q => by
  obtain ⟨a, dx, ws, rfl, h1, h2, h3⟩ := ra
  obtain ⟨b, dy, us, rfl, h4, h5, h6⟩ := rb
  refine ⟨a, dx, _, b, dy, _, rfl, I.ex _ _ h1, rfl, I.ex _ _ h4, rfl, rfl, ?_⟩
  exact FS.run I R (by rw [hg]; exact ⟨_, _, rfl, ⟨a, dx, ws, rfl, h1, h2, h3⟩, Reps.one ⟨b, dy, us, rfl, h4, h5, h6⟩⟩) ok hx fun d v G2 H2 hd s2 rd => by
    rw [hk d hd] at rd
    exact ⟨k, rd, q _ _ G2 H2 rfl s2 rfl⟩
theorem d_ownS {z : Str} (x : α) (hg : S.arg x = [.ins C fl xs]) (ok : S.ok c.W x) (hx : XO c E (S.xp x)) (hk : ∀ d, S.res x d → d = .str z) : RCD c cs (rOwnS C (rFn 1 0 (S.sp c.K) idv E)) [.ins C fl xs] (.str z) := fun G H vs I R rs Q q => by
  obtain ⟨v, rfl, a, dx, ws, rfl, h1, h2, h3⟩ := rs.only
  refine ⟨a, dx, _, rfl, I.ex _ _ h1, rfl, rfl, ?_⟩
  exact FS.run I R (by rw [hg]; exact Reps.one ⟨a, dx, ws, rfl, h1, h2, h3⟩) ok hx fun d v G2 H2 hd s2 rd => by
    rw [hk d hd] at rd
    exact ⟨z, rd, q _ _ G2 H2 rfl s2 rfl⟩
theorem RCP.inl {r r' : List V → Hp → VK → Prop} {as : List Dat} (h : RCP c cs r as P) : RCP c cs (fun xs H Q => r xs H Q ∨ r' xs H Q) as P := fun G H xs I R rs Q q => .inl (h G H xs I R rs Q q)
theorem RCP.inr {r r' : List V → Hp → VK → Prop} {as : List Dat} (h : RCP c cs r' as P) : RCP c cs (fun xs H Q => r xs H Q ∨ r' xs H Q) as P := fun G H xs I R rs Q q => .inr (h G H xs I R rs Q q)
theorem RUP.inl {r r' : V → Hp → VK → Prop} {a : Dat} (h : RUP c cs r a P) : RUP c cs (fun x H Q => r x H Q ∨ r' x H Q) a P := fun G H x I R rs Q q => .inl (h G H x I R rs Q q)
theorem RUP.inr {r r' : V → Hp → VK → Prop} {a : Dat} (h : RUP c cs r' a P) : RUP c cs (fun x H Q => r x H Q ∨ r' x H Q) a P := fun G H x I R rs Q q => .inr (h G H x I R rs Q q)
end
/-! ### what a law's text gives of a def -/
structure CxG (P : Program) (w : World) (K : PySem.W.Frag) (mg : Str → Option Value) (base : Heap) (CX : CXT) (f : Addr) (k n : Nat) (ks : List Str) (sp : Sp) (gV : List V → List V → List V) : Prop where
  ex : ∃ fd ps g, FnG P w K mg base CX k f fd ps sp ∧ KBn K fd ps n ks g gV
section
variable {X : Cx} {CX : CXT} {f C p : Addr} {k n : Nat} {ks : List Str} {sp : Sp} {gV : List V → List V → List V} {E : XK} {x m : Str} {e o : Expr} {es : List Expr} {pos apos : Pos} {t : TA} {to : TE}
theorem can_cx (h : CxG X.prog X.w X.K X.mg X.base CX f k n ks sp gV) (hr : RoomG k X.A) (hx : Passes CX X E) : CanG X (.ref f) ks (rFn n ks.length sp gV E) := by
  obtain ⟨fd, ps, g, F, hb⟩ := h.ex
  exact can_fn F hr hb hx
theorem can_mk (M : Mk X.K C f) (h : CxG X.prog X.w X.K X.mg X.base CX f k (n + 1) ks sp gV) (hr : RoomG (k + 1) X.A) (hx : Passes CX X E) : CanG X (.ref C) ks (rMk C n ks.length sp gV E) := by
  obtain ⟨fd, ps, g, F, hb⟩ := h.ex
  exact can_make M F hr hb hx
theorem UnR.or {ff : Value → Sem Value} {r r' : V → Hp → VK → Prop} (h : UnR X ff r) (h' : UnR X ff r') : UnR X ff (fun x H Q => r x H Q ∨ r' x H Q) := by
  intro pins s σ H x v Q I rx q
  rcases q with q | q
  · exact h pins s σ H x v Q I rx q
  · exact h' pins s σ H x v Q I rx q
theorem CallR.or' {ff : Value} {r r' : List V → Hp → VK → Prop} (h : CallR X ff r) (h' : CallR X ff r') : CallR X ff (fun x H Q => r x H Q ∨ r' x H Q) := by
  intro pins s σ H x v Q I rx q
  rcases q with q | q
  · exact h pins s σ H x v Q I rx q
  · exact h' pins s σ H x v Q I rx q
end
end DV

set_option autoImplicit false
set_option linter.all false
set_option maxRecDepth 100000
set_option maxHeartbeats 2000000
/-! A law's end over FnG, and the head's hook with more facts of one's own. -/
namespace DV
open PySem PySem.Spec PyProof.Rows L2
/-! ### the hook -/
def obsV (n : Nat) (fa : List He.Fa) (fn : List He5.DefA) (ex : PySem.W.Frag → Bool) (g : Addr → Option Obj) : He.AlD × Bool := (He5.obsAG n fa fn g, ex (He.frG g (He5.asA g n)))
def hookV (n : Nat) (fa : List He.Fa) (fn : List He5.DefA) (ex : PySem.W.Frag → Bool) : PySem.W.Hook where
  α := He.AlD × Bool
  obs := fun s => obsV n fa fn ex s.heap.get?
  val := fun _ => (He5.valA fn, true)
  says := fun _ h => ∃ K : PySem.W.Frag, K.In h ∧ He5.SaysA fa fn K ∧ ex K = true
  of := fun _ s e => ⟨_, He.frG_in, congrArg (fun z : He.AlD × Bool => z.1) e, congrArg (fun z : He.AlD × Bool => z.2) e⟩
  keeps := fun _ _ _ ⟨K, hK, c⟩ k => ⟨K, PySem.W.Frag.In.keeps hK k, c⟩
theorem obsV_eq {n : Nat} {fa : List He.Fa} {fn : List He5.DefA} {ex : PySem.W.Frag → Bool} {g : Addr → Option Obj} {s : Shared} (h : ∀ a, g a = s.heap.get? a) : obsV n fa fn ex g = (hookV n fa fn ex).obs s := by
  have e : g = s.heap.get? := funext h
  subst e
  rfl
/-! ### the end -/
/-- what is wanted behind a law's call -/
abbrev Fine (s₁ : Shared) : Result → Shared → Prop := fun r s' => r = .ok (.ret (.bool true)) ∧ OldK s₁.heap s'.heap ∧ s'.os = s₁.os ∧ AllBare s'.gens
section
variable {P : Program} {w : World} {K : PySem.W.Frag} {mg mb : Str → Option Value} {k : Nat} {fa a : Addr} {fd : FuncData} {x : Str} {sp : Sp} {s₁ : Shared} {vs : List Value} {ns : List Int}
/-- the heap behind the hiding: what isn't tracked stands there -/
theorem lawG_from (hfa : K.In s₁.heap) (glo : s₁.heap.Ns mainGlobals mg) (blt : s₁.heap.Ns builtinsNs mb) (bb : ∀ y : Str, y ≠ "__name__" → mb y = bootBuiltins y) (lim : s₁.heap.NoLimit) (ge : s₁.gens = #[])
    (at_ : s₁.heap.get? a = some { cls := .type "list", data := .seq vs.toArray }) (room : RoomG k callerA) (go : ∀ base : Heap, K.In base → base.Ns mainGlobals mg → FnG P w K mg base CX0 k fa fd [x] sp)
    (bind : ∀ (s : Shared) (u : Value), BindsTo s fd ⟨[u], []⟩ [(x, u)]) (H : Hp) (only : Only H) (ok : HOk P w H s₁.heap) (one : ∀ b, H b ≠ none → b = a) (off : H a ≠ none → K.lookup a = none)
    (prom : sp [.ref a] H (fun v _ => v = .bl true) E0) : codeAny (model P w) callerA (.call (.ref fa) ⟨[.ref a], []⟩) (Fine s₁) s₁ := by
  have keepN : ∀ {b : Addr} {m : Str → Option Value}, s₁.heap.Ns b m → (hidT s₁.heap H).Ns b m := by
    rintro b m ⟨o, es, ep, e, d, r⟩
    refine ⟨o, es, ep, hidT_get e ?_, d, r⟩
    cases q : H b with
    | none => rfl
    | some u =>
      have z := one b (by rw [q]; exact nofun)
      rw [z, at_] at e
      rw [← Option.some.inj e] at d
      exact nomatch (show Data.seq vs.toArray _ = Data.dict es ep from d)
  have inB : K.In (hidT s₁.heap H) := by
    intro b o e
    refine hidT_get (hfa b o e) ?_
    cases q : H b with
    | none => rfl
    | some u =>
      have ne : H b ≠ none := by rw [q]; exact nofun
      have z := one b ne
      rw [z] at e ne
      rw [off ne] at e
      exact nomatch e
  obtain ⟨mc, l1, l2⟩ := lim
  have env : Env0 P w K mg (hidT s₁.heap H) callerA [] s₁ H :=
    { frames := rfl, mod := ⟨inB, keepN glo, ⟨mb, keepN blt, bb⟩, mc, keepN l1, l2⟩, bs := fun b o e => of_hidT e, bsz := Nat.le_of_eq (hidT_size _ _), funs := trivial, frf := fun b hb => (List.not_mem_nil (show b ∈ ([] : List Addr) from hb)).elim, hok := ok, bare := .of_eq ge }
  have run := (go _ inB (keepN glo)).go callerA [] s₁ H ⟨[.ref a], []⟩ [.ref a] [.ref a] _ E0 room env (bind s₁ (.ref a)) (.cons rfl .nil) prom
  refine codeAny_mono run ?_
  intro r s' h
  match r, h with
  | .error e, h => exact h.elim
  | .ok .next, h => exact h.elim
  | .ok .brk, h => exact h.elim
  | .ok .cont, h => exact h.elim
  | .ok (.ret u), ⟨v, H', os, bare, un, ok', rv, tr⟩ =>
    rw [show v = .bl true from tr] at rv
    refine ⟨by rw [show u = Value.bool true from rv], .of_keep ?_, os, bare⟩
    intro b o e
    rcases only b with z | ⟨ob, xs, z⟩
    · exact un.keep b o e z (fun y => (List.not_mem_nil (show b ∈ ([] : List Addr) from y)).elim) List.not_mem_nil
    · have f1 := (ok b _ z).1
      have f2 := (ok' b _ (un.frzs b ob _ z)).1
      rw [f1] at e
      rw [f2, ← e]
theorem lawG (hfa : K.In s₁.heap) (glo : s₁.heap.Ns mainGlobals mg) (blt : s₁.heap.Ns builtinsNs mb) (bb : ∀ y : Str, y ≠ "__name__" → mb y = bootBuiltins y) (lim : s₁.heap.NoLimit) (ge : s₁.gens = #[])
    (at_ : s₁.heap.get? a = some { cls := .type "list", data := .seq vs.toArray }) (itg : IntsAre vs ns) (len : ns.length ≤ sizeLine) (room : RoomG k callerA) (go : ∀ base : Heap, K.In base → base.Ns mainGlobals mg → FnG P w K mg base CX0 k fa fd [x] sp)
    (bind : ∀ (s : Shared) (u : Value), BindsTo s fd ⟨[u], []⟩ [(x, u)]) (prom : ∀ H : Hp, Only H → SqL K H a (ns.map V.int) → sp [.ref a] H (fun v _ => v = .bl true) E0) :
    codeAny (model P w) callerA (.call (.ref fa) ⟨[.ref a], []⟩) (Fine s₁) s₁ := by
  have rel := vals_ints itg
  have same := itg.length
  by_cases own : K.lookup a = none
  · -- it is tracked as it stands
    let ob : Obj := { cls := .type "list", data := .seq vs.toArray }
    let Hs : Hp := fun b => if b = a then some (.frz ob (.lst (ns.map V.int))) else none
    have here : Hs a = some (.frz ob (.lst (ns.map V.int))) := if_pos rfl
    have away : ∀ {b}, b ≠ a → Hs b = none := fun n => if_neg n
    have onl : Only Hs := fun b => (Decidable.em (b = a)).elim (fun e => .inr ⟨ob, ns.map V.int, by rw [e]; exact here⟩) fun n => .inl (away n)
    refine lawG_from hfa glo blt bb lim ge at_ room go bind Hs onl (fun b u z => ?_) (fun b z => Decidable.byContradiction fun n => z (away n)) (fun _ => own) (prom Hs onl (.inl (.inr ⟨_, here⟩)))
    by_cases e : b = a
    · rw [e, here] at z
      cases z
      rw [e]
      exact ⟨at_, by rw [List.length_map]; exact len, vs, _, rel, at_⟩
    · rw [away e] at z
      cases z
  · -- it is one of the text's own objects
    obtain ⟨o, hk⟩ := Option.ne_none_iff_exists'.mp own
    have e := (hfa a o hk).symm.trans at_
    cases e
    have onl : Only (fun _ => none) := fun b => .inl rfl
    exact lawG_from hfa glo blt bb lim ge at_ room go bind (fun _ => none) onl (fun b u z => nomatch z) (fun b z => absurd rfl z) (fun z => absurd rfl z) (prom _ onl (.inr ⟨_, vs.toArray, _, hk, rfl, rfl, rfl, by rw [List.size_toArray, same]; exact len, by simpa using rel⟩))
end
theorem walkG {l : PySem.W.OpenLaw} {n k : Nat} {q : Program} {loose : List Str} {XP : (Str → Option Value) → Heap → Prop} {YP : World → Heap → Prop} {d : DefRec} {x : Str} (most : l.most = some n) (fits : n ≤ sizeLine) (nodef : d.params.defaults = []) (room : RoomG k callerA)
    (F : ∀ (w : World) (mg : Str → Option Value) (fa : Addr) (h : Heap), YP w h → h.Ns mainGlobals mg → mg d.name = some (.ref fa) → ∃ (K : PySem.W.Frag) (fd : FuncData) (sp : Sp), K.In h ∧ (∀ (s : Shared) (u : Value), BindsTo s fd ⟨[u], []⟩ [(x, u)]) ∧
      (∀ (H : Hp) (a : Addr) (ns : List Int), ns.length ≤ n → Only H → SqL K H a (ns.map V.int) → sp [.ref a] H (fun v _ => v = .bl true) E0) ∧ ∀ base : Heap, K.In base → base.Ns mainGlobals mg → FnG l.prog w K mg base CX0 k fa fd [x] sp) :
    PySem.W.WalkO q loose XP YP l.row.toRowW d [] (fun f vs => PySem.call f vs) := by
  refine Att.attach_call most nodef ?_
  intro w s₀ s₁ mg mb fa o pm cd doc a vs ns G Y ho hd hcd hmg hobj hints hlen hg
  obtain ⟨K, fd, sp, KX, hb, hsp, hF⟩ := F w mg fa _ Y G.T.g hmg
  exact lawG KX G.T.g G.T.b G.T.builtins G.T.nolimit hg hobj hints (Nat.le_trans hlen fits) room hF hb fun H onl hS => hsp H a ns hlen onl hS
end DV

set_option Elab.async false
set_option autoImplicit false
set_option linter.all false
set_option maxRecDepth 100000
set_option maxHeartbeats 0
namespace DV
open PySem PySem.Spec PyProof.Rows L2

def top (i : Nat) : Stmt := PySem.Challenge.pw_heardquotes_k24_whole_charts_by_all_runs.main.body.getD i (.Pass ⟨0, 0, 0, 0⟩)
abbrev s_is_integer : Stmt := top 16
abbrev N_is_integer : List PySem.Str := ["value"]
theorem sc_is_integer : FnScope N_is_integer ["value"] (defScope s_is_integer) := ⟨rfl, rfl, rfl, by decide +kernel, rfl, by decide +kernel, by decide +kernel⟩
def d_is_integer : He5.DefA := ⟨fun K => He.ga K "is_integer", "is_integer", "is_integer", defArgs s_is_integer, defBody s_is_integer, defScope s_is_integer, [], []⟩
abbrev s_is_list : Stmt := top 17
abbrev N_is_list : List PySem.Str := ["value"]
theorem sc_is_list : FnScope N_is_list ["value"] (defScope s_is_list) := ⟨rfl, rfl, rfl, by decide +kernel, rfl, by decide +kernel, by decide +kernel⟩
def d_is_list : He5.DefA := ⟨fun K => He.ga K "is_list", "is_list", "is_list", defArgs s_is_list, defBody s_is_list, defScope s_is_list, [], []⟩
abbrev s_is_word : Stmt := top 18
abbrev N_is_word : List PySem.Str := ["value", "letter"]
theorem sc_is_word : FnScope N_is_word ["value"] (defScope s_is_word) := ⟨rfl, rfl, rfl, by decide +kernel, rfl, by decide +kernel, by decide +kernel⟩
def d_is_word : He5.DefA := ⟨fun K => He.ga K "is_word", "is_word", "is_word", defArgs s_is_word, defBody s_is_word, defScope s_is_word, [], []⟩
abbrev s_is_letter : Stmt := top 19
abbrev N_is_letter : List PySem.Str := ["value"]
theorem sc_is_letter : FnScope N_is_letter ["value"] (defScope s_is_letter) := ⟨rfl, rfl, rfl, by decide +kernel, rfl, by decide +kernel, by decide +kernel⟩
def d_is_letter : He5.DefA := ⟨fun K => He.ga K "is_letter", "is_letter", "is_letter", defArgs s_is_letter, defBody s_is_letter, defScope s_is_letter, [], []⟩
abbrev s_want_word : Stmt := top 20
abbrev N_want_word : List PySem.Str := ["value"]
theorem sc_want_word : FnScope N_want_word ["value"] (defScope s_want_word) := ⟨rfl, rfl, rfl, by decide +kernel, rfl, by decide +kernel, by decide +kernel⟩
def d_want_word : He5.DefA := ⟨fun K => He.ga K "want_word", "want_word", "want_word", defArgs s_want_word, defBody s_want_word, defScope s_want_word, [], []⟩
abbrev s_want_letter : Stmt := top 21
abbrev N_want_letter : List PySem.Str := ["value"]
theorem sc_want_letter : FnScope N_want_letter ["value"] (defScope s_want_letter) := ⟨rfl, rfl, rfl, by decide +kernel, rfl, by decide +kernel, by decide +kernel⟩
def d_want_letter : He5.DefA := ⟨fun K => He.ga K "want_letter", "want_letter", "want_letter", defArgs s_want_letter, defBody s_want_letter, defScope s_want_letter, [], []⟩
abbrev s_is_heard : Stmt := top 22
abbrev N_is_heard : List PySem.Str := ["value", "one", "other"]
theorem sc_is_heard : FnScope N_is_heard ["value"] (defScope s_is_heard) := ⟨rfl, rfl, rfl, by decide +kernel, rfl, by decide +kernel, by decide +kernel⟩
def d_is_heard : He5.DefA := ⟨fun K => He.ga K "is_heard", "is_heard", "is_heard", defArgs s_is_heard, defBody s_is_heard, defScope s_is_heard, [], []⟩
abbrev s_is_place : Stmt := top 28
abbrev N_is_place : List PySem.Str := ["value", "places"]
theorem sc_is_place : FnScope N_is_place ["value", "places"] (defScope s_is_place) := ⟨rfl, rfl, rfl, by decide +kernel, rfl, by decide +kernel, by decide +kernel⟩
def d_is_place : He5.DefA := ⟨fun K => He.ga K "is_place", "is_place", "is_place", defArgs s_is_place, defBody s_is_place, defScope s_is_place, [], []⟩
abbrev s_is_step : Stmt := top 29
abbrev N_is_step : List PySem.Str := ["value", "places"]
theorem sc_is_step : FnScope N_is_step ["value", "places"] (defScope s_is_step) := ⟨rfl, rfl, rfl, by decide +kernel, rfl, by decide +kernel, by decide +kernel⟩
def d_is_step : He5.DefA := ⟨fun K => He.ga K "is_step", "is_step", "is_step", defArgs s_is_step, defBody s_is_step, defScope s_is_step, [], []⟩
abbrev s_want_steps : Stmt := top 30
abbrev N_want_steps : List PySem.Str := ["steps", "places", "position", "step"]
theorem sc_want_steps : FnScope N_want_steps ["steps", "places"] (defScope s_want_steps) := ⟨rfl, rfl, rfl, by decide +kernel, rfl, by decide +kernel, by decide +kernel⟩
def d_want_steps : He5.DefA := ⟨fun K => He.ga K "want_steps", "want_steps", "want_steps", defArgs s_want_steps, defBody s_want_steps, defScope s_want_steps, [], []⟩
abbrev s_want_begins : Stmt := top 31
abbrev N_want_begins : List PySem.Str := ["begins", "places", "position", "place"]
theorem sc_want_begins : FnScope N_want_begins ["begins", "places"] (defScope s_want_begins) := ⟨rfl, rfl, rfl, by decide +kernel, rfl, by decide +kernel, by decide +kernel⟩
def d_want_begins : He5.DefA := ⟨fun K => He.ga K "want_begins", "want_begins", "want_begins", defArgs s_want_begins, defBody s_want_begins, defScope s_want_begins, [], []⟩
abbrev s_letters_in : Stmt := top 32
abbrev N_letters_in : List PySem.Str := ["steps", "step"]
theorem sc_letters_in : FnScope N_letters_in ["steps"] (defScope s_letters_in) := ⟨rfl, rfl, rfl, by decide +kernel, rfl, by decide +kernel, by decide +kernel⟩
def d_letters_in : He5.DefA := ⟨fun K => He.ga K "letters_in", "letters_in", "letters_in", defArgs s_letters_in, defBody s_letters_in, defScope s_letters_in, [], []⟩
abbrev s_Machine___init__ : Stmt := inClass (top 33) 0
abbrev N_Machine___init__ : List PySem.Str := ["self", "places", "steps", "begins"]
theorem sc_Machine___init__ : FnScope N_Machine___init__ ["self", "places", "steps", "begins"] (defScope s_Machine___init__) := ⟨rfl, rfl, rfl, by decide +kernel, rfl, by decide +kernel, by decide +kernel⟩
def d_Machine___init__ : He5.DefA := ⟨fun K => He.ma K (He.ga K "Machine") "__init__", "__init__", "Machine.__init__", defArgs s_Machine___init__, defBody s_Machine___init__, defScope s_Machine___init__, [], []⟩
abbrev s_Machine_places : Stmt := inClass (top 33) 1
abbrev N_Machine_places : List PySem.Str := ["self"]
theorem sc_Machine_places : FnScope N_Machine_places ["self"] (defScope s_Machine_places) := ⟨rfl, rfl, rfl, by decide +kernel, rfl, by decide +kernel, by decide +kernel⟩
def d_Machine_places : He5.DefA := ⟨fun K => He5.wf K (He.ga K "Machine") "property" "places", "places", "Machine.places", defArgs s_Machine_places, defBody s_Machine_places, defScope s_Machine_places, [], []⟩
abbrev s_Machine_letters : Stmt := inClass (top 33) 2
abbrev N_Machine_letters : List PySem.Str := ["self"]
theorem sc_Machine_letters : FnScope N_Machine_letters ["self"] (defScope s_Machine_letters) := ⟨rfl, rfl, rfl, by decide +kernel, rfl, by decide +kernel, by decide +kernel⟩
def d_Machine_letters : He5.DefA := ⟨fun K => He5.wf K (He.ga K "Machine") "property" "letters", "letters", "Machine.letters", defArgs s_Machine_letters, defBody s_Machine_letters, defScope s_Machine_letters, [], []⟩
abbrev s_Machine_steps : Stmt := inClass (top 33) 3
abbrev N_Machine_steps : List PySem.Str := ["self"]
theorem sc_Machine_steps : FnScope N_Machine_steps ["self"] (defScope s_Machine_steps) := ⟨rfl, rfl, rfl, by decide +kernel, rfl, by decide +kernel, by decide +kernel⟩
def d_Machine_steps : He5.DefA := ⟨fun K => He.ma K (He.ga K "Machine") "steps", "steps", "Machine.steps", defArgs s_Machine_steps, defBody s_Machine_steps, defScope s_Machine_steps, [], []⟩
abbrev s_Machine_begins : Stmt := inClass (top 33) 4
abbrev N_Machine_begins : List PySem.Str := ["self"]
theorem sc_Machine_begins : FnScope N_Machine_begins ["self"] (defScope s_Machine_begins) := ⟨rfl, rfl, rfl, by decide +kernel, rfl, by decide +kernel, by decide +kernel⟩
def d_Machine_begins : He5.DefA := ⟨fun K => He.ma K (He.ga K "Machine") "begins", "begins", "Machine.begins", defArgs s_Machine_begins, defBody s_Machine_begins, defScope s_Machine_begins, [], []⟩
abbrev s_Machine___repr__ : Stmt := inClass (top 33) 6
abbrev N_Machine___repr__ : List PySem.Str := ["self"]
theorem sc_Machine___repr__ : FnScope N_Machine___repr__ ["self"] (defScope s_Machine___repr__) := ⟨rfl, rfl, rfl, by decide +kernel, rfl, by decide +kernel, by decide +kernel⟩
def d_Machine___repr__ : He5.DefA := ⟨fun K => He.ma K (He.ga K "Machine") "__repr__", "__repr__", "Machine.__repr__", defArgs s_Machine___repr__, defBody s_Machine___repr__, defScope s_Machine___repr__, [], []⟩
abbrev s_want_heard : Stmt := top 35
abbrev N_want_heard : List PySem.Str := ["machine", "heard", "letter"]
theorem sc_want_heard : FnScope N_want_heard ["machine", "heard"] (defScope s_want_heard) := ⟨rfl, rfl, rfl, by decide +kernel, rfl, by decide +kernel, by decide +kernel⟩
def d_want_heard : He5.DefA := ⟨fun K => He.ga K "want_heard", "want_heard", "want_heard", defArgs s_want_heard, defBody s_want_heard, defScope s_want_heard, [], []⟩
abbrev s_want_place : Stmt := top 36
abbrev N_want_place : List PySem.Str := ["machine", "place"]
theorem sc_want_place : FnScope N_want_place ["machine", "place"] (defScope s_want_place) := ⟨rfl, rfl, rfl, by decide +kernel, rfl, by decide +kernel, by decide +kernel⟩
def d_want_place : He5.DefA := ⟨fun K => He.ga K "want_place", "want_place", "want_place", defArgs s_want_place, defBody s_want_place, defScope s_want_place, [], []⟩
abbrev s_closed : Stmt := top 37
abbrev N_closed : List PySem.Str := ["machine", "heard", "places", "found", "waiting", "steps", "here", "near", "letter", "far"]
theorem sc_closed : FnScope N_closed ["machine", "heard", "places"] (defScope s_closed) := ⟨rfl, rfl, rfl, by decide +kernel, rfl, by decide +kernel, by decide +kernel⟩
def d_closed : He5.DefA := ⟨fun K => He.ga K "closed", "closed", "closed", defArgs s_closed, defBody s_closed, defScope s_closed, [], []⟩
abbrev s_chart_after : Stmt := top 38
abbrev N_chart_after : List PySem.Str := ["machine", "heard", "chart", "letter", "goals", "near", "said", "far"]
theorem sc_chart_after : FnScope N_chart_after ["machine", "heard", "chart", "letter"] (defScope s_chart_after) := ⟨rfl, rfl, rfl, by decide +kernel, rfl, by decide +kernel, by decide +kernel⟩
def d_chart_after : He5.DefA := ⟨fun K => He.ga K "chart_after", "chart_after", "chart_after", defArgs s_chart_after, defBody s_chart_after, defScope s_chart_after, [], []⟩
abbrev s_letters_next : Stmt := top 39
abbrev N_letters_next : List PySem.Str := ["machine", "heard", "chart", "said", "near", "letter", "far"]
theorem sc_letters_next : FnScope N_letters_next ["machine", "heard", "chart"] (defScope s_letters_next) := ⟨rfl, rfl, rfl, by decide +kernel, rfl, by decide +kernel, by decide +kernel⟩
def d_letters_next : He5.DefA := ⟨fun K => He.ga K "letters_next", "letters_next", "letters_next", defArgs s_letters_next, defBody s_letters_next, defScope s_letters_next, [], []⟩
abbrev s_is_tuple_of_places : Stmt := top 40
abbrev N_is_tuple_of_places : List PySem.Str := ["value", "places", "place", "near", "far"]
theorem sc_is_tuple_of_places : FnScope N_is_tuple_of_places ["value", "places"] (defScope s_is_tuple_of_places) := ⟨rfl, rfl, rfl, by decide +kernel, rfl, by decide +kernel, by decide +kernel⟩
def d_is_tuple_of_places : He5.DefA := ⟨fun K => He.ga K "is_tuple_of_places", "is_tuple_of_places", "is_tuple_of_places", defArgs s_is_tuple_of_places, defBody s_is_tuple_of_places, defScope s_is_tuple_of_places, [], []⟩
abbrev s_is_chart : Stmt := top 41
abbrev N_is_chart : List PySem.Str := ["machine", "heard", "value"]
theorem sc_is_chart : FnScope N_is_chart ["machine", "heard", "value"] (defScope s_is_chart) := ⟨rfl, rfl, rfl, by decide +kernel, rfl, by decide +kernel, by decide +kernel⟩
def d_is_chart : He5.DefA := ⟨fun K => He.ga K "is_chart", "is_chart", "is_chart", defArgs s_is_chart, defBody s_is_chart, defScope s_is_chart, [], []⟩
abbrev s_want_chart : Stmt := top 42
abbrev N_want_chart : List PySem.Str := ["machine", "heard", "chart"]
theorem sc_want_chart : FnScope N_want_chart ["machine", "heard", "chart"] (defScope s_want_chart) := ⟨rfl, rfl, rfl, by decide +kernel, rfl, by decide +kernel, by decide +kernel⟩
def d_want_chart : He5.DefA := ⟨fun K => He.ga K "want_chart", "want_chart", "want_chart", defArgs s_want_chart, defBody s_want_chart, defScope s_want_chart, [], []⟩
abbrev s_beginning : Stmt := top 43
abbrev N_beginning : List PySem.Str := ["machine", "heard"]
theorem sc_beginning : FnScope N_beginning ["machine", "heard"] (defScope s_beginning) := ⟨rfl, rfl, rfl, by decide +kernel, rfl, by decide +kernel, by decide +kernel⟩
def d_beginning : He5.DefA := ⟨fun K => He.ga K "beginning", "beginning", "beginning", defArgs s_beginning, defBody s_beginning, defScope s_beginning, [], []⟩
abbrev s_first_chart : Stmt := top 44
abbrev N_first_chart : List PySem.Str := ["machine", "heard"]
theorem sc_first_chart : FnScope N_first_chart ["machine", "heard"] (defScope s_first_chart) := ⟨rfl, rfl, rfl, by decide +kernel, rfl, by decide +kernel, by decide +kernel⟩
def d_first_chart : He5.DefA := ⟨fun K => He.ga K "first_chart", "first_chart", "first_chart", defArgs s_first_chart, defBody s_first_chart, defScope s_first_chart, [], []⟩
abbrev s_chart_then : Stmt := top 45
abbrev N_chart_then : List PySem.Str := ["machine", "heard", "chart", "letter"]
theorem sc_chart_then : FnScope N_chart_then ["machine", "heard", "chart", "letter"] (defScope s_chart_then) := ⟨rfl, rfl, rfl, by decide +kernel, rfl, by decide +kernel, by decide +kernel⟩
def d_chart_then : He5.DefA := ⟨fun K => He.ga K "chart_then", "chart_then", "chart_then", defArgs s_chart_then, defBody s_chart_then, defScope s_chart_then, [], []⟩
abbrev s_led_by : Stmt := top 46
abbrev N_led_by : List PySem.Str := ["machine", "heard", "chart", "word", "here", "letter"]
theorem sc_led_by : FnScope N_led_by ["machine", "heard", "chart", "word"] (defScope s_led_by) := ⟨rfl, rfl, rfl, by decide +kernel, rfl, by decide +kernel, by decide +kernel⟩
def d_led_by : He5.DefA := ⟨fun K => He.ga K "led_by", "led_by", "led_by", defArgs s_led_by, defBody s_led_by, defScope s_led_by, [], []⟩
abbrev s_chart_behind : Stmt := top 47
abbrev N_chart_behind : List PySem.Str := ["machine", "heard", "word"]
theorem sc_chart_behind : FnScope N_chart_behind ["machine", "heard", "word"] (defScope s_chart_behind) := ⟨rfl, rfl, rfl, by decide +kernel, rfl, by decide +kernel, by decide +kernel⟩
def d_chart_behind : He5.DefA := ⟨fun K => He.ga K "chart_behind", "chart_behind", "chart_behind", defArgs s_chart_behind, defBody s_chart_behind, defScope s_chart_behind, [], []⟩
abbrev s_next_letters : Stmt := top 48
abbrev N_next_letters : List PySem.Str := ["machine", "heard", "chart"]
theorem sc_next_letters : FnScope N_next_letters ["machine", "heard", "chart"] (defScope s_next_letters) := ⟨rfl, rfl, rfl, by decide +kernel, rfl, by decide +kernel, by decide +kernel⟩
def d_next_letters : He5.DefA := ⟨fun K => He.ga K "next_letters", "next_letters", "next_letters", defArgs s_next_letters, defBody s_next_letters, defScope s_next_letters, [], []⟩
abbrev s_is_run : Stmt := top 51
abbrev N_is_run : List PySem.Str := ["machine", "value", "here", "known", "step"]
theorem sc_is_run : FnScope N_is_run ["machine", "value"] (defScope s_is_run) := ⟨rfl, rfl, rfl, by decide +kernel, rfl, by decide +kernel, by decide +kernel⟩
def d_is_run : He5.DefA := ⟨fun K => He.ga K "is_run", "is_run", "is_run", defArgs s_is_run, defBody s_is_run, defScope s_is_run, [], []⟩
abbrev s_want_run : Stmt := top 52
abbrev N_want_run : List PySem.Str := ["machine", "run"]
theorem sc_want_run : FnScope N_want_run ["machine", "run"] (defScope s_want_run) := ⟨rfl, rfl, rfl, by decide +kernel, rfl, by decide +kernel, by decide +kernel⟩
def d_want_run : He5.DefA := ⟨fun K => He.ga K "want_run", "want_run", "want_run", defArgs s_want_run, defBody s_want_run, defScope s_want_run, [], []⟩
abbrev s_stop_of : Stmt := top 53
abbrev N_stop_of : List PySem.Str := ["machine", "run", "place", "steps"]
theorem sc_stop_of : FnScope N_stop_of ["machine", "run"] (defScope s_stop_of) := ⟨rfl, rfl, rfl, by decide +kernel, rfl, by decide +kernel, by decide +kernel⟩
def d_stop_of : He5.DefA := ⟨fun K => He.ga K "stop_of", "stop_of", "stop_of", defArgs s_stop_of, defBody s_stop_of, defScope s_stop_of, [], []⟩
abbrev s_heard_of : Stmt := top 54
abbrev N_heard_of : List PySem.Str := ["machine", "heard", "run", "near", "letter", "far"]
theorem sc_heard_of : FnScope N_heard_of ["machine", "heard", "run"] (defScope s_heard_of) := ⟨rfl, rfl, rfl, by decide +kernel, rfl, by decide +kernel, by decide +kernel⟩
def d_heard_of : He5.DefA := ⟨fun K => He.ga K "heard_of", "heard_of", "heard_of", defArgs s_heard_of, defBody s_heard_of, defScope s_heard_of, [], []⟩
abbrev s_next_spots : Stmt := top 55
abbrev N_next_spots : List PySem.Str := ["machine", "heard", "word", "spot", "place", "many", "found", "step"]
theorem sc_next_spots : FnScope N_next_spots ["machine", "heard", "word", "spot"] (defScope s_next_spots) := ⟨rfl, rfl, rfl, by decide +kernel, rfl, by decide +kernel, by decide +kernel⟩
def d_next_spots : He5.DefA := ⟨fun K => He.ga K "next_spots", "next_spots", "next_spots", defArgs s_next_spots, defBody s_next_spots, defScope s_next_spots, [], []⟩
abbrev s_spots_from : Stmt := top 56
abbrev N_spots_from : List PySem.Str := ["machine", "heard", "word", "found", "place", "waiting", "spot", "step", "later"]
theorem sc_spots_from : FnScope N_spots_from ["machine", "heard", "word"] (defScope s_spots_from) := ⟨rfl, rfl, rfl, by decide +kernel, rfl, by decide +kernel, by decide +kernel⟩
def d_spots_from : He5.DefA := ⟨fun K => He.ga K "spots_from", "spots_from", "spots_from", defArgs s_spots_from, defBody s_spots_from, defScope s_spots_from, [], []⟩
abbrev s_run_for : Stmt := top 57
abbrev N_run_for : List PySem.Str := ["machine", "heard", "word", "place", "known", "spot", "steps", "step"]
theorem sc_run_for : FnScope N_run_for ["machine", "heard", "word", "place"] (defScope s_run_for) := ⟨rfl, rfl, rfl, by decide +kernel, rfl, by decide +kernel, by decide +kernel⟩
def d_run_for : He5.DefA := ⟨fun K => He.ga K "run_for", "run_for", "run_for", defArgs s_run_for, defBody s_run_for, defScope s_run_for, [], []⟩
abbrev s__law_pot : Stmt := top 59
abbrev N__law_pot : List PySem.Str := ["script", "k", "cell"]
theorem sc__law_pot : FnScope N__law_pot ["script", "k"] (defScope s__law_pot) := ⟨rfl, rfl, rfl, by decide +kernel, rfl, by decide +kernel, by decide +kernel⟩
def d__law_pot : He5.DefA := ⟨fun K => He.ga K "_law_pot", "_law_pot", "_law_pot", defArgs s__law_pot, defBody s__law_pot, defScope s__law_pot, [], []⟩
abbrev s__law_draw : Stmt := top 60
abbrev N__law_draw : List PySem.Str := ["pot", "size", "digit"]
theorem sc__law_draw : FnScope N__law_draw ["pot", "size"] (defScope s__law_draw) := ⟨rfl, rfl, rfl, by decide +kernel, rfl, by decide +kernel, by decide +kernel⟩
def d__law_draw : He5.DefA := ⟨fun K => He.ga K "_law_draw", "_law_draw", "_law_draw", defArgs s__law_draw, defBody s__law_draw, defScope s__law_draw, [], []⟩
abbrev s__law_pick : Stmt := top 61
abbrev N__law_pick : List PySem.Str := ["pot", "some"]
theorem sc__law_pick : FnScope N__law_pick ["pot", "some"] (defScope s__law_pick) := ⟨rfl, rfl, rfl, by decide +kernel, rfl, by decide +kernel, by decide +kernel⟩
def d__law_pick : He5.DefA := ⟨fun K => He.ga K "_law_pick", "_law_pick", "_law_pick", defArgs s__law_pick, defBody s__law_pick, defScope s__law_pick, [], []⟩
abbrev s__law_net : Stmt := top 62
abbrev N__law_net : List PySem.Str := ["pot", "most", "wide", "signs", "rows", "turn", "row", "first", "at"]
theorem sc__law_net : FnScope N__law_net ["pot", "most"] (defScope s__law_net) := ⟨rfl, rfl, rfl, by decide +kernel, rfl, by decide +kernel, by decide +kernel⟩
def d__law_net : He5.DefA := ⟨fun K => He.ga K "_law_net", "_law_net", "_law_net", defArgs s__law_net, defBody s__law_net, defScope s__law_net, [], []⟩
abbrev s__law_made : Stmt := top 63
abbrev N__law_made : List PySem.Str := ["net"]
theorem sc__law_made : FnScope N__law_made ["net"] (defScope s__law_made) := ⟨rfl, rfl, rfl, by decide +kernel, rfl, by decide +kernel, by decide +kernel⟩
def d__law_made : He5.DefA := ⟨fun K => He.ga K "_law_made", "_law_made", "_law_made", defArgs s__law_made, defBody s__law_made, defScope s__law_made, [], []⟩
abbrev s__law_signs : Stmt := top 64
abbrev N__law_signs : List PySem.Str := ["net", "near", "sign", "far"]
theorem sc__law_signs : FnScope N__law_signs ["net"] (defScope s__law_signs) := ⟨rfl, rfl, rfl, by decide +kernel, rfl, by decide +kernel, by decide +kernel⟩
def d__law_signs : He5.DefA := ⟨fun K => He.ga K "_law_signs", "_law_signs", "_law_signs", defArgs s__law_signs, defBody s__law_signs, defScope s__law_signs, [], []⟩
abbrev s__law_ears : Stmt := top 65
abbrev N__law_ears : List PySem.Str := ["pot", "net", "sign"]
theorem sc__law_ears : FnScope N__law_ears ["pot", "net"] (defScope s__law_ears) := ⟨rfl, rfl, rfl, by decide +kernel, rfl, by decide +kernel, by decide +kernel⟩
def d__law_ears : He5.DefA := ⟨fun K => He.ga K "_law_ears", "_law_ears", "_law_ears", defArgs s__law_ears, defBody s__law_ears, defScope s__law_ears, [], []⟩
abbrev s__law_pairs : Stmt := top 66
abbrev N__law_pairs : List PySem.Str := ["net", "ears", "phrase", "found", "at", "here", "many", "near", "sign", "far", "later", "place_now"]
theorem sc__law_pairs : FnScope N__law_pairs ["net", "ears", "phrase"] (defScope s__law_pairs) := ⟨rfl, rfl, rfl, by decide +kernel, rfl, by decide +kernel, by decide +kernel⟩
def d__law_pairs : He5.DefA := ⟨fun K => He.ga K "_law_pairs", "_law_pairs", "_law_pairs", defArgs s__law_pairs, defBody s__law_pairs, defScope s__law_pairs, [], []⟩
abbrev s__law_due : Stmt := top 67
abbrev N__law_due : List PySem.Str := ["net", "ears", "phrase", "found", "here", "many"]
theorem sc__law_due : FnScope N__law_due ["net", "ears", "phrase"] (defScope s__law_due) := ⟨rfl, rfl, rfl, by decide +kernel, rfl, by decide +kernel, by decide +kernel⟩
def d__law_due : He5.DefA := ⟨fun K => He.ga K "_law_due", "_law_due", "_law_due", defArgs s__law_due, defBody s__law_due, defScope s__law_due, [], []⟩
abbrev s__law_is_for : Stmt := top 68
abbrev N__law_is_for : List PySem.Str := ["net", "ears", "phrase", "goal", "told", "here", "heard_now", "row"]
theorem sc__law_is_for : FnScope N__law_is_for ["net", "ears", "phrase", "goal", "told"] (defScope s__law_is_for) := ⟨rfl, rfl, rfl, by decide +kernel, rfl, by decide +kernel, by decide +kernel⟩
def d__law_is_for : He5.DefA := ⟨fun K => He.ga K "_law_is_for", "_law_is_for", "_law_is_for", defArgs s__law_is_for, defBody s__law_is_for, defScope s__law_is_for, [], []⟩
abbrev s__law_run_right : Stmt := top 69
abbrev N__law_run_right : List PySem.Str := ["made", "net", "ears", "phrase", "goal", "page", "told", "again"]
theorem sc__law_run_right : FnScope N__law_run_right ["made", "net", "ears", "phrase", "goal", "page"] (defScope s__law_run_right) := ⟨rfl, rfl, rfl, by decide +kernel, rfl, by decide +kernel, by decide +kernel⟩
def d__law_run_right : He5.DefA := ⟨fun K => He.ga K "_law_run_right", "_law_run_right", "_law_run_right", defArgs s__law_run_right, defBody s__law_run_right, defScope s__law_run_right, [], []⟩
abbrev s__law_word_right : Stmt := top 70
abbrev N__law_word_right : List PySem.Str := ["made", "net", "ears", "phrase", "page", "told", "nexts", "sign", "due", "goal"]
theorem sc__law_word_right : FnScope N__law_word_right ["made", "net", "ears", "phrase"] (defScope s__law_word_right) := ⟨rfl, rfl, rfl, by decide +kernel, rfl, by decide +kernel, by decide +kernel⟩
def d__law_word_right : He5.DefA := ⟨fun K => He.ga K "_law_word_right", "_law_word_right", "_law_word_right", defArgs s__law_word_right, defBody s__law_word_right, defScope s__law_word_right, [], []⟩
abbrev s__law_right : Stmt := top 71
abbrev N__law_right : List PySem.Str := ["pot", "net", "made", "ears", "text_now", "phrases", "turn", "sign", "near", "far", "more", "phrase"]
theorem sc__law_right : FnScope N__law_right ["pot"] (defScope s__law_right) := ⟨rfl, rfl, rfl, by decide +kernel, rfl, by decide +kernel, by decide +kernel⟩
def d__law_right : He5.DefA := ⟨fun K => He.ga K "_law_right", "_law_right", "_law_right", defArgs s__law_right, defBody s__law_right, defScope s__law_right, [], []⟩
abbrev s_law : Stmt := top 72
abbrev N_law : List PySem.Str := ["script", "k"]
theorem sc_law : FnScope N_law ["script"] (defScope s_law) := ⟨rfl, rfl, rfl, by decide +kernel, rfl, by decide +kernel, by decide +kernel⟩
def d_law : He5.DefA := ⟨fun K => He.ga K "law", "law", "law", defArgs s_law, defBody s_law, defScope s_law, [], []⟩
def fnl : List He5.DefA := [d_is_integer, d_is_list, d_is_word, d_is_letter, d_want_word, d_want_letter, d_is_heard, d_is_place, d_is_step, d_want_steps, d_want_begins, d_letters_in, d_Machine___init__, d_Machine_places, d_Machine_letters, d_Machine_steps, d_Machine_begins, d_Machine___repr__, d_want_heard, d_want_place] ++ [d_closed, d_chart_after, d_letters_next, d_is_tuple_of_places, d_is_chart, d_want_chart, d_beginning, d_first_chart, d_chart_then, d_led_by, d_chart_behind, d_next_letters, d_is_run, d_want_run, d_stop_of, d_heard_of, d_next_spots, d_spots_from, d_run_for, d__law_pot] ++ [d__law_draw, d__law_pick, d__law_net, d__law_made, d__law_signs, d__law_ears, d__law_pairs, d__law_due, d__law_is_for, d__law_run_right, d__law_word_right, d__law_right, d_law]
def glx : List PySem.Str := (["is_integer", "is_list", "is_word", "is_letter", "want_word", "want_letter", "is_heard", "is_place", "is_step", "want_steps", "want_begins", "letters_in", "want_heard", "want_place", "closed", "chart_after", "letters_next", "is_tuple_of_places", "is_chart", "want_chart"] : List PySem.Str) ++ (["beginning", "first_chart", "chart_then", "led_by", "chart_behind", "next_letters", "is_run", "want_run", "stop_of", "heard_of", "next_spots", "spots_from", "run_for", "_law_pot", "_law_draw", "_law_pick", "_law_net", "_law_made", "_law_signs", "_law_ears"] : List PySem.Str) ++ (["_law_pairs", "_law_due", "_law_is_for", "_law_run_right", "_law_word_right", "_law_right", "law", "Machine"] : List PySem.Str)
def frx : List PySem.Str := ["isinstance", "int", "bool", "list", "tuple", "str", "abs", "max", "min", "len", "repr", "divmod", "all", "range", "sorted", "set", "zip", "enumerate"]
def msx : List PySem.Str := ["steps", "begins", "__repr__"]
def propB (K : PySem.W.Frag) (C : Addr) (f : PySem.Str) : Bool := He.eqO (PySem.W.findIn K (.ref C) f) (some (some (.ref (He.ma K C f)))) && (He.eqO (PySem.W.specialIn K (.ref (He.ma K C f)) "__get__") (some (some (.builtin "property.__get__"))) &&
  (decide (PySem.W.takesIn K (.ref (He.ma K C f)) = some true) && (match PySem.W.recIn K (He.ma K C f) "property" with
    | some (.ref _ :: _) => true
    | _ => false)))
def fal : List He.Fa := glx.map He.Fa.glo ++ glx.map He.Fa.keep ++ frx.map He.Fa.free ++ msx.map (He.Fa.meth "Machine") ++ [.int "MOST_PLACES" 8, .int "MOST_STEPS" 40, .int "MOST_LETTERS" 6, .int "MOST_HEARD" 400, .str "SMALL" "abcdefghijklmnopqrstuvwxyz", .str "SILENT" "", .cls "Machine", .mkr "Machine", .noat "Machine" "own_places", .noat "Machine" "own_steps", .noat "Machine" "own_begins"]
/-- facts of one's own -/
def exB (K : PySem.W.Frag) : Bool :=
  [He.ga K "Machine"].all fun C => decide (PySem.W.mroIn K C (.type "object") = some true) &&
  (He.eqO (PySem.W.findIn K (.ref C) "__class__") (some (some (.builtin "object.__class__"))) && (He.eqO (PySem.W.specialIn K (.builtin "object.__class__") "__get__") (some (some (.builtin "getset_descriptor.__get__"))) && (decide (PySem.W.takesIn K (.builtin "object.__class__") = some true) &&
  (["places", "letters"].all fun f => propB K C f))))
abbrev R24 : PySem.W.OpenRow := PySem.W.OpenLaw.row PySem.Challenge.rw_heardquotes_k24_whole_charts_by_all_runs
abbrev hk : PySem.W.Hook := hookV 6 fal fnl exB
def ob (s : PySem.W.SharedT) : He.AlD × Bool := obsV 6 fal fnl exB (HandSHeadRun.getT s)
theorem ob_eq (s : PySem.W.SharedT) : ob s = hk.obs s.abs := obsV_eq (HandSHeadRun.getT_eq s)

def names : List PySem.Str := (["_wall", "MarketError", "LimitError", "InvalidHeard", "InvalidWord", "InvalidLetter", "InvalidPlace", "InvalidBegins", "InvalidChart", "InvalidPlaces", "InvalidRun", "InvalidSteps", "TooMany", "is_integer", "is_list", "is_word", "is_letter", "want_word", "want_letter", "is_heard"] : List PySem.Str) ++ (["is_place", "is_step", "want_steps", "want_begins", "letters_in", "Machine", "want_heard", "want_place", "closed", "chart_after", "letters_next", "is_tuple_of_places", "is_chart", "want_chart", "beginning", "first_chart", "chart_then", "led_by", "chart_behind", "next_letters"] : List PySem.Str) ++ (["is_run", "want_run", "stop_of", "heard_of", "next_spots", "spots_from", "run_for", "_law_pot", "_law_draw", "_law_pick", "_law_net", "_law_made", "_law_signs", "_law_ears", "_law_pairs", "_law_due", "_law_is_for", "_law_run_right", "_law_word_right", "_law_right"] : List PySem.Str) ++ (["MOST_PLACES", "MOST_STEPS", "MOST_LETTERS", "MOST_HEARD", "SMALL", "SILENT"] : List PySem.Str)
end DV

set_option Elab.async false
set_option autoImplicit false
set_option linter.all false
set_option maxRecDepth 100000
set_option maxHeartbeats 0
namespace DV
open PySem PySem.Spec PyProof.Rows L2
theorem runs (w : World) : HandSHeadRun.RunEq R24 (PySem.W.view R24.prog [72]) hk ob 12000 names w := by
  intro os
  kernel_rfl
end DV

set_option autoImplicit false
set_option linter.all false
namespace DV
/-- a ratio's parts are below 2 ^ k -/
def Bd (k : Nat) (q : Rat) : Prop := q.num.natAbs < 2 ^ k ∧ q.den < 2 ^ k
theorem bd_le {j k : Nat} {q : Rat} (h : Bd j q) (l : j ≤ k) : Bd k q := ⟨Nat.lt_of_lt_of_le h.1 (Nat.pow_le_pow_right (by decide) l), Nat.lt_of_lt_of_le h.2 (Nat.pow_le_pow_right (by decide) l)⟩
theorem num_le (a b : Int) : (Rat.divInt a b).num.natAbs ≤ a.natAbs := by
  rw [Rat.num_divInt]
  refine Nat.le_trans (Int.natAbs_ediv_le_natAbs _ _) ?_
  rw [Int.natAbs_mul]
  have : b.sign.natAbs ≤ 1 := by
    rcases Int.lt_trichotomy b 0 with h | h | h
    · rw [Int.sign_eq_neg_one_of_neg h]; decide
    · subst h; decide
    · rw [Int.sign_eq_one_of_pos h]; decide
  calc b.sign.natAbs * a.natAbs ≤ 1 * a.natAbs := Nat.mul_le_mul_right _ this
    _ = a.natAbs := Nat.one_mul _
theorem den_le {a b : Int} (h : b ≠ 0) : (Rat.divInt a b).den ≤ b.natAbs := by
  rw [Rat.den_divInt, if_neg h]
  exact Nat.div_le_self _ _
theorem bd_fr {k : Nat} {a b : Int} (h : b ≠ 0) (h1 : a.natAbs < 2 ^ k) (h2 : b.natAbs < 2 ^ k) : Bd k (Rat.divInt a b) := ⟨Nat.lt_of_le_of_lt (num_le a b) h1, Nat.lt_of_le_of_lt (den_le h) h2⟩
theorem den_ne (q : Rat) : (q.den : Int) ≠ 0 := by have := q.den_pos; omega
theorem add_fr (q r : Rat) : q + r = Rat.divInt (q.num * r.den + r.num * q.den) (q.den * r.den) := by
  have := Rat.divInt_add_divInt q.num r.num (den_ne q) (den_ne r)
  rw [Rat.num_divInt_den, Rat.num_divInt_den] at this
  exact this
theorem sub_fr (q r : Rat) : q - r = Rat.divInt (q.num * r.den - r.num * q.den) (q.den * r.den) := by
  have := Rat.divInt_sub_divInt q.num r.num (den_ne q) (den_ne r)
  rw [Rat.num_divInt_den, Rat.num_divInt_den] at this
  exact this
theorem mul_fr (q r : Rat) : q * r = Rat.divInt (q.num * r.num) (q.den * r.den) := by
  have := Rat.divInt_mul_divInt q.num r.num (d₁ := q.den) (d₂ := r.den)
  rw [Rat.num_divInt_den, Rat.num_divInt_den] at this
  exact this
theorem div_fr (q r : Rat) : q / r = Rat.divInt (q.num * r.den) (q.den * r.num) := by
  rw [Rat.div_def, Rat.inv_def]
  have := Rat.divInt_mul_divInt q.num r.den (d₁ := q.den) (d₂ := r.num)
  rw [Rat.num_divInt_den] at this
  exact this
theorem mul_ne {a b : Int} (h : a ≠ 0) (h' : b ≠ 0) : a * b ≠ 0 := fun e => by
  rcases Int.mul_eq_zero.mp e with z | z
  · exact h z
  · exact h' z
theorem mul_lt {x y : Nat} {a b : Nat} (h : x < 2 ^ a) (h' : y < 2 ^ b) : x * y < 2 ^ (a + b) := by
  rw [Nat.pow_add]
  exact Nat.mul_lt_mul'' h h'
theorem mul_ltI {x y : Int} {a b : Nat} (h : x.natAbs < 2 ^ a) (h' : y.natAbs < 2 ^ b) : (x * y).natAbs < 2 ^ (a + b) := by
  rw [Int.natAbs_mul]
  exact mul_lt h h'
theorem add_ltI {x y : Int} {a : Nat} (h : x.natAbs < 2 ^ a) (h' : y.natAbs < 2 ^ a) : (x + y).natAbs < 2 ^ (a + 1) := by
  rw [Nat.pow_succ]
  have := Int.natAbs_add_le x y
  omega
theorem sub_ltI {x y : Int} {a : Nat} (h : x.natAbs < 2 ^ a) (h' : y.natAbs < 2 ^ a) : (x - y).natAbs < 2 ^ (a + 1) := by
  have := add_ltI (x := x) (y := -y) h (by rw [Int.natAbs_neg]; exact h')
  rwa [← Int.sub_eq_add_neg] at this
theorem bd_add {a b : Nat} {q r : Rat} (h : Bd a q) (h' : Bd b r) : Bd (a + b + 1) (q + r) := by
  rw [add_fr]
  refine bd_fr (mul_ne (den_ne q) (den_ne r)) ?_ ?_
  · exact add_ltI (mul_ltI h.1 (by simpa using h'.2)) (by rw [Nat.add_comm]; exact mul_ltI h'.1 (by simpa using h.2))
  · refine Nat.lt_trans (mul_ltI (x := q.den) (y := r.den) (a := a) (b := b) (by simpa using h.2) (by simpa using h'.2)) ?_
    exact Nat.pow_lt_pow_right (by decide) (by omega)
theorem bd_neg {a : Nat} {q : Rat} (h : Bd a q) : Bd a (-q) := ⟨by rw [Rat.neg_num, Int.natAbs_neg]; exact h.1, by rw [Rat.neg_den]; exact h.2⟩
theorem bd_sub {a b : Nat} {q r : Rat} (h : Bd a q) (h' : Bd b r) : Bd (a + b + 1) (q - r) := by
  rw [Rat.sub_eq_add_neg]
  exact bd_add h (bd_neg h')
theorem bd_mul {a b : Nat} {q r : Rat} (h : Bd a q) (h' : Bd b r) : Bd (a + b) (q * r) := by
  rw [mul_fr]
  refine bd_fr (mul_ne (den_ne q) (den_ne r)) (mul_ltI h.1 h'.1) (mul_ltI (by simpa using h.2) (by simpa using h'.2))
theorem bd_int {a : Nat} {n : Int} (h : n.natAbs < 2 ^ a) (h0 : 0 < a) : Bd a (n : Rat) := ⟨by rw [Rat.num_intCast]; exact h, by rw [Rat.den_intCast]; exact Nat.one_lt_two_pow (by omega)⟩
theorem fr_one (n : Int) : Rat.divInt n 1 = (n : Rat) := by
  refine Rat.ext ?_ ?_
  · rw [Rat.num_divInt, Rat.num_intCast]; simp
  · rw [Rat.den_divInt, Rat.den_intCast]; simp
/-- what the text's own making of lowest terms gives -/
theorem low_num {a b : Int} (h : b ≠ 0) : a.fdiv (if b < 0 then 0 - (a.gcd b : Int) else (a.gcd b : Int)) = (Rat.divInt a b).num ∧ b.fdiv (if b < 0 then 0 - (a.gcd b : Int) else (a.gcd b : Int)) = ((Rat.divInt a b).den : Int) := by
  have hg : (a.gcd b : Int) ∣ a := Int.gcd_dvd_left a b
  have hg2 : (a.gcd b : Int) ∣ b := Int.gcd_dvd_right a b
  have g0 : (a.gcd b) ≠ 0 := by
    intro e
    rw [Int.gcd_eq_zero_iff] at e
    exact h e.2
  rw [Rat.num_divInt, Rat.den_divInt, if_neg h, Int.gcd_comm b a]
  by_cases hb : b < 0
  · rw [if_pos hb, Int.sign_eq_neg_one_of_neg hb, Int.zero_sub, Int.fdiv_eq_ediv_of_dvd (Int.neg_dvd.mpr hg), Int.fdiv_eq_ediv_of_dvd (Int.neg_dvd.mpr hg2), Int.ediv_neg, Int.ediv_neg]
    refine ⟨?_, ?_⟩
    · rw [Int.neg_one_mul, Int.neg_ediv_of_dvd hg]
    · rw [← Int.neg_ediv_of_dvd hg2, Int.natCast_ediv]
      congr 1
      omega
  · have hb' : 0 < b := by omega
    rw [if_neg hb, Int.sign_eq_one_of_pos hb', Int.one_mul, Int.fdiv_eq_ediv_of_dvd hg, Int.fdiv_eq_ediv_of_dvd hg2]
    refine ⟨rfl, ?_⟩
    rw [Int.natCast_ediv]
    congr 1
    omega
theorem low_pos {a b : Int} (h : 0 < b) : a.fdiv (a.gcd b : Int) = (Rat.divInt a b).num ∧ b.fdiv (a.gcd b : Int) = ((Rat.divInt a b).den : Int) := by
  have := low_num (a := a) (b := b) (by omega)
  rwa [if_neg (by omega)] at this
theorem low_neg {a b : Int} (h : b < 0) : (-a).fdiv (a.gcd b : Int) = (Rat.divInt a b).num ∧ (-b).fdiv (a.gcd b : Int) = ((Rat.divInt a b).den : Int) := by
  have := low_pos (a := -a) (b := -b) (by omega)
  rw [Int.gcd_neg, Int.neg_gcd] at this
  rw [this.1, this.2]
  have e : Rat.divInt (-a) (-b) = Rat.divInt a b := by
    rw [Rat.divInt_eq_divInt_iff (by omega) (by omega)]
    rw [Int.neg_mul, Int.mul_neg]
  rw [e]
  exact ⟨rfl, rfl⟩
end DV

set_option autoImplicit false
set_option linter.all false
set_option maxRecDepth 100000
set_option maxHeartbeats 2000000
/-! Rules as tactics take them: every side condition an argument of its own. -/
namespace DV
open PySem PySem.Spec PyProof.Rows L2
section
variable {c : Ct} {cs : Cells} {Δ Δ1 : Sts} {te ta tb : TE} {tr tk : TA} {tt uu : TT} {P : Dat → Prop} {ds es fs : List Dat} {p q : Bool} {t u : TS} {po : Po} {d a b : Dat} {i j l : Nat} {g : TG} {is : List Nat}
theorem a_var (h : Δ[i]? = some (some d)) : EVD c cs Δ (tVar i) d := ev_var h
theorem a_tup (h : EVL c cs Δ tr ds) (hl : ds.length ≤ 100000) : EVD c cs Δ (tTup tr) (.tup ds) := ev_tup h hl
theorem a_lst (h : EVL c cs Δ tr ds) (hl : ds.length ≤ 100000) : EVD c cs Δ (tLst tr) (.lst ds) := ev_lst h hl
theorem a_tr (h : EVD c cs Δ te (.bl true)) (e : p = true) : EVD c cs Δ te (.bl p) := by subst e; exact h
theorem a_and (h1 : EVD c cs Δ ta (.bl p)) (h2 : p = true → EVD c cs Δ tb (.bl q)) : EVD c cs Δ (tAndV ta tb) (.bl (p && q)) := ev_andV h1 h2
theorem a_or (h1 : EVD c cs Δ ta (.bl p)) (h2 : p = false → EVD c cs Δ tb (.bl q)) : EVD c cs Δ (tOrV ta tb) (.bl (p || q)) := ev_orV h1 h2
theorem a_ifT (h : EVT c cs Δ tt p) (e : p = true) (h1 : EVP c cs Δ ta P) : EVP c cs Δ (tIf tt ta tb) P := ev_if h (fun _ => h1) fun z => by rw [e] at z; cases z
theorem a_ifF (h : EVT c cs Δ tt p) (e : p = false) (h1 : EVP c cs Δ tb P) : EVP c cs Δ (tIf tt ta tb) P := ev_if h (fun z => by rw [e] at z; cases z) fun _ => h1
theorem a_if (h : EVT c cs Δ tt p) (h1 : p = true → EVP c cs Δ ta P) (h2 : p = false → EVP c cs Δ tb P) : EVP c cs Δ (tIf tt ta tb) P := ev_if h h1 h2
theorem a_ifD (h : EVT c cs Δ tt p) (h1 : p = true → EVD c cs Δ ta a) (h2 : p = false → EVD c cs Δ tb b) : EVD c cs Δ (tIf tt ta tb) (if p then a else b) := ev_if h (fun e => by rw [if_pos e]; exact h1 e) fun e => by rw [if_neg (by rw [e]; decide)]; exact h2 e
/-! statements -/
theorem at_ {Δ' : Sts} (Δ : Sts) (e : Δ' = Δ) (h : STS c cs Δ t po) : STS c cs Δ' t po := by subst e; exact h
theorem b_no {tu : TS} (h : EVT c cs Δ tt p) (e : p = false) (k : STS c cs Δ u po) : STS c cs Δ (tSeq (tIfS tt tu tNext) u) po := q_whenNo (h.to e) k
theorem b_when {tu : TS} (h : EVT c cs Δ tt p) (h1 : p = true → STS c cs Δ tu { po with nx := fun _ _ => False }) (k : p = false → STS c cs Δ u po) : STS c cs Δ (tSeq (tIfS tt tu tNext) u) po := q_when h (fun e => h1 e.symm) fun e => k e.symm
theorem b_if {tu tw : TS} (h : EVT c cs Δ tt p) (h1 : p = true → STS c cs Δ tu po) (h2 : p = false → STS c cs Δ tw po) : STS c cs Δ (tIfS tt tu tw) po := s_if h (fun e => h1 e.symm) fun e => h2 e.symm
/-- an if without else whose body sets names: what is known behind -/
theorem b_ifq {tu tw : TS} {M : NxT} (h : EVT c cs Δ tt p) (h1 : p = true → STS c cs Δ tu { po with nx := M }) (h2 : p = false → STS c cs Δ tw { po with nx := M }) (k : ∀ cs' Δ', M cs' Δ' → STS c cs' Δ' u po) : STS c cs Δ (tSeq (tIfS tt tu tw) u) po := q_if h (fun e => h1 e.symm) (fun e => h2 e.symm) k
theorem b_asg (h : EVD c cs Δ te d) (k : STS c cs (Δ.set i (some d)) u po) : STS c cs Δ (tSeq (tAsg te (gName i)) u) po := q_asg h k
theorem b_ret (h : EVP c cs Δ te P) (k : ∀ d, P d → po.ret d) : STS c cs Δ (tRet te) po := s_ret h k
theorem b_retD (h : EVD c cs Δ te d) (k : po.ret d) : STS c cs Δ (tRet te) po := s_retD h k
theorem b_par (h : EVL c cs Δ tr [a, b]) (k : STS c cs ((Δ.set i (some a)).set j (some b)) u po) : STS c cs Δ (tSeq (tPar i j tr) u) po := q_par h k
theorem b_par3 {e : Dat} (h : EVL c cs Δ tr [a, b, e]) (k : STS c cs (((Δ.set i (some a)).set j (some b)).set l (some e)) u po) : STS c cs Δ (tSeq (tPar3 i j l tr) u) po := fun F G0 H0 σ G H D cu s R k2 =>
  h σ G H s cu.inn (R.on cu.st) _ fun ds vs G2 H2 pd s2 rd => by
    subst pd
    obtain ⟨x, r, rfl, r1, rd2⟩ := rd
    obtain ⟨y, z, rfl, r2, r3⟩ := Reps.two rd2
    exact ⟨x, y, z, rfl, k F G0 H0 _ G2 H2 D (cu.on s2) ((((s.mono s2.g).set r1).set r2).set r3) R k2⟩
/-- a, b = a tuple of two -/
theorem b_two (h : EVD c cs Δ te (.tup [a, b])) (k : STS c cs ((Δ.set i (some a)).set j (some b)) u po) : STS c cs Δ (tSeq (tAsg te (gTup c.K 2 (gCons (gName i) (gCons (gName j) gNil)))) u) po := q_asgT h g_two k
end
section
variable {K : PySem.W.Frag} {x qual : PySem.Str} {params : Arguments} {body : List Stmt} {scope : Scope} {dvs : List V} {kws : List (PySem.Str × V)} {f : Addr} {fd : FuncData} {ps : List PySem.Str}
/-- a def with defaults, none of them keyword-only -/
theorem kb_dfl (F : FunD K x qual params body scope dvs kws f fd) (n : Nat) (ks : List PySem.Str) (g : {α : Type} → List α → List α → List α → List α) (hd : dvs ≠ [])
    (hrel : ∀ {vs ds zs : List V} {us its ws : List Value}, Vals vs us → Vals ds its → Vals zs ws → Vals (g vs ds zs) (g us its ws))
    (h : ∀ (T : Addr) (kV doc pm : Value) (an : Option Addr) (cdv ct : Value) (us its ws : List Value), us.length = n → its.length = dvs.length → ws.length = ks.length →
      ∃ k, bindArgs (PySem.W.fnOf x qual params body scope (.ref T) kV doc pm an cdv ct) ⟨us, ks.zip ws⟩ = seqItems? (.ref T) >>= k ∧ k (some its.toArray) = pure (ps.zip (g us its ws))) :
    ∃ its : List Value, KBn K fd ps n ks (fun us ws => g us its ws) (fun vs zs => g vs dvs zs) := by
  obtain ⟨oc, od, dV, kV, doc, pm, an, cdv, ct, osl, rfl, lk, hcd, hD, hK⟩ := F.ex
  rcases hD with ⟨e, _⟩ | ⟨_, T, o, its, m, rfl, lT, oT, rT⟩
  · exact absurd e hd
  · refine ⟨its, fun s us ws X l1 l2 => ?_, fun r1 r2 => hrel r1 rT r2⟩
    obtain ⟨k, e1, e2⟩ := h T kV doc pm an cdv ct us its ws l1 rT.length.symm l2
    refine BindsTo.of_looks fun M => ?_
    rw [e1]
    exact looks_items X lT oT (.of_pure e2)
end
theorem Vals.rev {vs : List V} {us : List Value} (h : Vals vs us) : Vals vs.reverse us.reverse := by
  induction h with
  | nil => exact .nil
  | cons r _ ih =>
    rw [List.reverse_cons, List.reverse_cons]
    exact ih.append (.cons r .nil)
/-! walks over a list or a tuple -/
def iAny (K : PySem.W.Frag) (tl : TE) : TI := fun σ H R => iList K tl σ H R ∨ iTup K tl σ H R
theorem pi_any {X : Cx} {tg l : Expr} {tl : TE} (h : PE X l tl) : PI X tg l (iAny X.K tl) := by
  refine ⟨fun pins s σ H R I q => ?_⟩
  rcases q with q | q
  · exact (pi_list h).run pins s σ H R I q
  · exact (pi_tup h).run pins s σ H R I q
section
variable {c : Ct} {cs : Cells} {Δ : Sts} {te tl : TE} {ds : List Dat} {vs : List Nat} {wi : TI} {i : Nat}
theorem f_anyL (h : EVD c cs Δ tl (.lst ds)) : EVF c cs Δ (iAny c.K tl) fun x => x = ds := fun σ G H s I R Q k => .inl (f_listD h σ G H s I R Q k)
theorem f_anyT (h : EVD c cs Δ tl (.tup ds)) : EVF c cs Δ (iAny c.K tl) fun x => x = ds := fun σ G H s I R Q k => .inr (f_tupD h σ G H s I R Q k)
theorem et_yes : EVT c cs Δ tYes true := fun σ G H s I R Q k => k true G H rfl (Step.refl I)
/-- [e for x in xs], the items and the elements told by the same list -/
theorem en_map {α : Type} (xs : List α) (g f : α → Dat) (hw : EVF c cs Δ wi fun x => x = xs.map g) (hl : xs.length ≤ 50000) (hi : i ∈ vs) (hf : ∀ x ∈ xs, ∀ y ∈ xs, g x = g y → f x = f y)
    (he : ∀ x ∈ xs, EVD c cs ((wipeD Δ vs).set i (some (g x))) te (f x)) : EVN c cs Δ (tLc wi (gName i) tYes te vs) fun es => es = xs.map f := by
  refine (en_lc (PL := fun x => x = xs.map g) (Δf := fun d => (wipeD Δ vs).set i (some d)) (is := [i]) (Pt := fun _ b => b = true) (Pe := fun d e => ∃ x ∈ xs, d = g x ∧ e = f x) hw ?_ (fun ds d _ _ => g_name) ?_ (fun ds d _ _ => et_yes) ?_).imp ?_
  · rintro ds rfl
    rw [List.length_map]
    exact hl
  · intro j hj
    rw [List.mem_singleton] at hj
    rw [hj]
    exact hi
  · intro ds d e hd _
    subst e
    obtain ⟨x, hx, rfl⟩ := List.mem_map.mp hd
    exact (he x hx).imp fun e h => ⟨x, hx, rfl, h⟩
  · rintro es ⟨ds, rfl, h⟩
    have key : ∀ {ds es : List Dat}, CompR (fun _ b => b = true) (fun d e => ∃ x ∈ xs, d = g x ∧ e = f x) ds es → ∀ ys : List α, (∀ y ∈ ys, y ∈ xs) → ds = ys.map g → es = ys.map f := by
      intro ds es h
      induction h with
      | nil =>
        intro ys _ e
        rw [List.map_eq_nil_iff.mp e.symm]
        rfl
      | @yes ds es d e h1 h2 h3 ih =>
        intro ys hy e0
        obtain ⟨ys1, ys2, rfl, e1, e2⟩ := List.map_eq_append_iff.mp e0.symm
        obtain ⟨y, rfl⟩ : ∃ y, ys2 = [y] := by
          match ys2, e2 with
          | [y], _ => exact ⟨y, rfl⟩
        have e3 : g y = d := by simpa using e2
        obtain ⟨x, hx, hd, he⟩ := h3
        rw [List.map_append, ← ih ys1 (fun z hz => hy z (List.mem_append_left _ hz)) e1.symm, he, hf x hx y (hy y (by simp)) (by rw [e3, hd])]
        rfl
      | no _ h2 _ => cases h2
    exact key h xs (fun _ h => h) rfl
theorem en_mapD {α : Type} (xs : List α) (g f : α → Dat) (hw : EVF c cs Δ wi fun x => x = xs.map g) (hl : xs.length ≤ 50000) (hi : i ∈ vs) (hf : ∀ x ∈ xs, ∀ y ∈ xs, g x = g y → f x = f y)
    (he : ∀ x ∈ xs, EVD c cs ((wipeD Δ vs).set i (some (g x))) te (f x)) : EVD c cs Δ (tLc wi (gName i) tYes te vs) (.lst (xs.map f)) := (en_map xs g f hw hl hi hf he).goodD
end
/-! sizes -/
theorem cm_of {i j : Int} {a b : Nat} (h : i.natAbs < 2 ^ a) (h' : j.natAbs < 2 ^ b) (l : a + b ≤ 900000) : CMulW i j := wide_mul (a := a + 1) (b := b + 1) (Nat.lt_trans h (Nat.pow_lt_pow_right (by decide) (by omega))) (Nat.lt_trans h' (Nat.pow_lt_pow_right (by decide) (by omega))) (by omega) (by omega) (by omega)
section
variable {q r : Rat} {a b : Nat}
theorem cm_nn (h : Bd a q) (h' : Bd b r) (l : a + b ≤ 900000) : CMulW q.num r.num := cm_of h.1 h'.1 l
theorem cm_nd (h : Bd a q) (h' : Bd b r) (l : a + b ≤ 900000) : CMulW q.num r.den := cm_of h.1 (by simpa using h'.2) l
theorem cm_dn (h : Bd a q) (h' : Bd b r) (l : a + b ≤ 900000) : CMulW q.den r.num := cm_of (by simpa using h.2) h'.1 l
theorem cm_dd (h : Bd a q) (h' : Bd b r) (l : a + b ≤ 900000) : CMulW q.den r.den := cm_of (by simpa using h.2) (by simpa using h'.2) l
end
theorem log_lt {i : Int} {k : Nat} (h : i.natAbs < 2 ^ k) (h0 : 0 < k) : i.natAbs.log2 < k := PySem.Flt.log2_lt_of h0 h
end DV

set_option autoImplicit false
set_option linter.all false
set_option maxRecDepth 100000
set_option maxHeartbeats 3200000
/-! sorted(set(xs)), xs a list of ints or of texts: over any kind of key whose values are told by the key. -/
namespace DV
open PySem PySem.Spec PyProof.Rows L2
theorem nodup_le {κ : Type} [DecidableEq κ] : ∀ {l m : List κ}, l.Nodup → (∀ x ∈ l, x ∈ m) → l.length ≤ m.length
  | [], m, _, _ => Nat.zero_le _
  | x :: l, m, h, s => by
    obtain ⟨h1, h2⟩ := List.nodup_cons.mp h
    have q := nodup_le (m := m.erase x) h2 fun y hy => (List.mem_erase_of_ne (fun e : y = x => h1 (by rw [← e]; exact hy))).2 (s y (List.mem_cons_of_mem _ hy))
    have hx : x ∈ m := s x List.mem_cons_self
    rw [List.length_erase_of_mem hx] at q
    have := List.length_pos_of_mem hx
    rw [List.length_cons]
    omega
structure KeyV (P : Program) (w : World) (κ : Type) [DecidableEq κ] where
  knd : PySem.KeyKind P w κ
  val : κ → Tok → Value
  key : Value → κ
  kmk : ∀ k t, key (val k t) = k
  isk : ∀ j k t, knd.is k (val j t) = true ↔ j = k
  scn : ∀ k t, (val k t).scannable = true
  enc : κ → PyData
  rd : ∀ (h : Heap) k t, Reads h (val k t) (enc k) []
  al : ∀ j k, PySem.W.alike (enc j) (enc k) = true
  ot : ∀ k, enc k ≠ .none ∧ ∀ xs, enc k ≠ .tuple xs
  dp : ∀ k, (enc k).depth = 0
section
variable {P : Program} {w : World} {κ : Type} [DecidableEq κ] (V : KeyV P w κ)
def KeyV.ge (e : Int × Value) : Prop := ∃ t, e.2 = V.val (V.key e.2) t ∧ e.1 = V.knd.hash (V.key e.2)
def KeyV.ks (es : Array (Int × Value)) : List κ := es.toList.map fun e => V.key e.2
/-- a table that holds just the keys ks -/
structure TK (es : Array (Int × Value)) (t : SetTable) (ks : List κ) : Prop where
  good : ∀ e ∈ es.toList, V.ge e
  nd : (V.ks es).Nodup
  mem : ∀ k, k ∈ V.ks es ↔ k ∈ ks
  sz : es.size < scanBound
  fit : t.fits es.size = true
  ris : Ris t.place.toList
  led : w.params.followText "set-order" = true ∨ t.led = true
/-- .. at a -/
def SK (h : Heap) (a : Addr) (ks : List κ) : Prop := ∃ o es ep t, h.get? a = some o ∧ o.ExactSet ∧ o.data = .set es ep t ∧ TK V es t ks
end
section
variable {P : Program} {w : World} {κ : Type} [DecidableEq κ] {V : KeyV P w κ} {A : Around} {E : Value → Shared → Prop} {s : Shared} {a : Addr} {ks : List κ}
theorem SK.keep {h h' : Heap} (S : SK V h a ks) (k : ∀ o, h.get? a = some o → h'.get? a = some o) : SK V h' a ks := let ⟨o, es, ep, t, e, r⟩ := S; ⟨o, es, ep, t, k o e, r⟩
theorem KeyV.ge_is {e : Int × Value} (g : V.ge e) (k : κ) : V.knd.is k e.2 = true ↔ V.key e.2 = k := by
  obtain ⟨t, h, _⟩ := g
  rw [h, V.isk, V.kmk]
theorem KeyV.elems {es : List (Int × Value)} (g : ∀ e ∈ es, V.ge e) : ElemsOf V.knd es := fun e he => by
  obtain ⟨t, h1, h2⟩ := g e he
  exact ⟨⟨V.key e.2, (V.ge_is ⟨t, h1, h2⟩ _).2 rfl, h2⟩, by rw [h1]; exact V.scn _ _⟩
theorem sk_tail {g : Bool → Sem Unit} (hg : ∀ (b : Bool) (s' : Shared) (Q' : Unit → Shared → Prop), Q' () s' → wpAny (model P w) A (g b) Q' E s') {o : Obj} {es es1 : Array (Int × Value)} {ep : Nat} {t t2 : SetTable} (ho : s.heap.get? a = some o) (hx : o.ExactSet)
    (hd : o.data = .set es ep t) (T : TK V es1 t2 ks) {wd : Bool} {R : Option Bool → Shared → Prop} (k : ∀ h', Heap.SameBut a s.heap h' → SK V h' a ks → R (some true) { s with heap := h' }) :
    wpAny (model P w) A (do storeSet a es1 t2; if (!wd && t2.tooFull) = true then do { g (relayAll t2 es1 (SetTable.grown es1.size)).2.2; storeSet a (relayAll t2 es1 (SetTable.grown es1.size)).1 (relayAll t2 es1 (SetTable.grown es1.size)).2.1; pure (some true) } else pure (some true)) R E s := by
  have at1 := store_at (es' := es1) (t' := t2) ho hd
  have b1 := Heap.SameBut.update s.heap a (Obj.putSet es1 t2)
  refine wpAny_bind (wpAny_storeSet_of ho hd ?_ (fits_of_scanBound T.sz))
  by_cases hc : (!wd && t2.tooFull) = true
  · rw [if_pos hc]
    have p0 := relayAll_perm t2 es1 (SetTable.grown es1.size)
    have p1 := relayAll_fits t2 es1 (SetTable.grown es1.size)
    have p2 := relayAll_ris t2 es1 (SetTable.grown es1.size)
    have p3 := relayAll_led t2 es1 (SetTable.grown es1.size)
    generalize relayAll t2 es1 (SetTable.grown es1.size) = z at p0 p1 p2 p3 ⊢
    obtain ⟨es2, t3, gv⟩ := z
    dsimp only at p0 p1 p2 p3 ⊢
    have n2 : es2.size = es1.size := (Array.length_toList (xs := es2)).symm.trans (p0.length_eq.trans Array.length_toList)
    have l2 : es2.size < scanBound := n2 ▸ T.sz
    refine wpAny_bind (hg _ _ _ (wpAny_bind (wpAny_storeSet_of at1 rfl ?_ (fits_of_scanBound l2))))
    refine wpAny_pure (k _ (b1.trans (Heap.SameBut.update _ a _)) ⟨_, es2, _, t3, store_at (es' := es2) (t' := t3) at1 rfl, hx, rfl, ?_⟩)
    exact ⟨fun e he => T.good e (p0.mem_iff.mp he), (p0.map _).nodup_iff.mpr T.nd, fun j => ((p0.map _).mem_iff).trans (T.mem j), l2, p1, p2, T.led.imp id fun q => by rw [p3]; exact q⟩
  · rw [if_neg hc]
    exact wpAny_pure (k _ b1 ⟨_, es1, _, t2, at1, hx, rfl, T⟩)
theorem sk_add {k : κ} {tk : Tok} {Q : Bool → Shared → Prop} (S : SK V s.heap a ks) (room : ks.length + 1 < scanBound) (hQ : ∀ b h', Heap.SameBut a s.heap h' → SK V h' a (ks ++ [k]) → Q b { s with heap := h' }) :
    wpAny (model P w) A (setAddHashed a (V.val k tk) (V.knd.hash k)) Q E s := by
  obtain ⟨o, es, ep, t, ho, hx, hd, T⟩ := S
  have hkey : V.knd.is k (V.val k tk) = true := (V.isk k k tk).2 rfl
  have hsc := V.scn k tk
  have hel : ElemsOf V.knd es.toList := KeyV.elems T.good
  unfold setAddHashed setAddHashedIn
  refine wpAny_holding (wpAny_bind (wpAny_setState_of ho hd T.fit ?_))
  dsimp only
  rw [byScan_of hsc T.sz hel]
  simp only [↓reduceIte]
  unfold setAddByScan
  refine wpAny_bind (wpAny_bind (wpAny_rule (wpAny_bind (wpAny_setScan_of hkey ho hd T.fit hel ?_))))
  cases hf : es.toList.findIdx? (fun e => V.knd.is k e.2) with
  | some j =>
    dsimp only
    obtain ⟨hj, pj, _⟩ := List.findIdx?_eq_some_iff_getElem.mp hf
    have hm : k ∈ V.ks es := List.mem_map.mpr ⟨_, List.getElem_mem hj, (KeyV.ge_is (T.good _ (List.getElem_mem hj)) k).1 pj⟩
    refine wpAny_pure (wpAny_pure (hQ _ s.heap (Heap.SameBut.refl a s.heap) ⟨o, es, ep, t, ho, hx, hd, { T with mem := fun i => ?_ }⟩))
    rw [T.mem i, List.mem_append, List.mem_singleton]
    exact ⟨.inl, fun q => q.elim id fun e => e ▸ (T.mem k).1 hm⟩
  | none =>
    dsimp only
    have hn : k ∉ V.ks es := fun q => by
      obtain ⟨e, he, ee⟩ := List.mem_map.mp q
      have c := List.findIdx?_eq_none_iff.mp hf e he
      rw [(KeyV.ge_is (T.good e he) k).2 ee] at c
      cases c
    have p0 := layNew_perm t es (V.knd.hash k) (V.val k tk)
    have p1 := layNew_fits t es (V.knd.hash k) (V.val k tk)
    have p2 := layNew_ris t es (V.knd.hash k) (V.val k tk) T.ris
    have p3 := layNew_led t es (V.knd.hash k) (V.val k tk)
    generalize layNew t es (V.knd.hash k) (V.val k tk) = z at p0 p1 p2 p3 ⊢
    obtain ⟨es1, t1, wd, gv⟩ := z
    dsimp only at p0 p1 p2 p3 ⊢
    rw [Array.toList_push] at p0
    have pc : es1.toList.Perm ((V.knd.hash k, V.val k tk) :: es.toList) := p0.trans (List.perm_append_singleton _ _)
    have pk : (V.ks es1).Perm (k :: V.ks es) := by
      have q := pc.map fun e : Int × Value => V.key e.2
      rw [List.map_cons, V.kmk] at q
      exact q
    have len : es.size ≤ ks.length := by
      have q := nodup_le T.nd fun x hx => (T.mem x).1 hx
      unfold KeyV.ks at q
      rw [List.length_map, Array.length_toList] at q
      exact q
    have n1 : es1.size = es.size + 1 := by rw [← Array.length_toList, pc.length_eq, List.length_cons, Array.length_toList]
    have T1 : ∀ t2 : SetTable, t2.fits es1.size = true → t2.place = t1.place → t2.led = t1.led → TK V es1 t2 (ks ++ [k]) := fun t2 q1 q2 q3 => by
      refine ⟨fun e he => ?_, pk.nodup_iff.mpr (List.nodup_cons.mpr ⟨hn, T.nd⟩), fun i => ?_, by rw [n1]; omega, q1, by rw [q2]; exact p2, T.led.imp id fun q => by rw [q3, p3]; exact q⟩
      · rcases List.mem_cons.mp (pc.mem_iff.mp he) with q | q
        · rw [q]
          exact ⟨tk, by rw [V.kmk], by rw [V.kmk]⟩
        · exact T.good e q
      · rw [pk.mem_iff, List.mem_cons, List.mem_append, List.mem_singleton, T.mem i]
        exact Or.comm
    have gw : ∀ (b : Bool) (s' : Shared) (Q' : Unit → Shared → Prop), Q' () s' → wpAny (model P w) A (match b with | true => rule "set.scan.the-table-gave-way" | false => pure ()) Q' E s' :=
      fun b s' Q' q => by cases b <;> first | exact wpAny_pure q | exact wpAny_rule q
    refine wpAny_bind (gw _ _ _ ?_)
    split
    · refine wpAny_bind ?_
      rw [hashByValue_scannable 8 hsc]
      refine wpAny_pure (sk_tail (V := V) (ks := ks ++ [k]) ?_ ho hx hd (T1 _ ?_ ?_ ?_) ?_)
      · intro b s' Q' q; cases b <;> first | exact wpAny_pure q | exact wpAny_rule q
      · first | (split <;> first | exact p1 | exact SetTable.fits_plain_off p1) | exact p1
      · first | (split <;> rfl) | rfl
      · first | (split <;> rfl) | rfl
      · intro h' sb r; dsimp only; exact wpAny_pure (hQ true h' sb r)
    · refine wpAny_bind (wpAny_pure ?_)
      simp only [↓reduceIte]
      refine sk_tail (V := V) (ks := ks ++ [k]) ?_ ho hx hd (T1 _ p1 rfl rfl) ?_
      · intro b s' Q' q; cases b <;> first | exact wpAny_pure q | exact wpAny_rule q
      · intro h' sb r; dsimp only; exact wpAny_pure (hQ true h' sb r)
/-- the loop over what is put in -/
theorem sk_loop {I : Addr} {fp wr : List Addr} {G : Array GenState → Array GenState → Prop} {n : Nat} {Pv : Nat → Value → Prop} {St : Nat → Shared → Prop} {R : Result → Shared → Prop}
    (W : WalksS P w A.in1 I fp wr G n Pv St) (S : Addr) (hS : S ∉ fp) (xs : List κ) (hn : n = xs.length) (hb : xs.length + 1 < scanBound) (hval : ∀ i v, Pv i v → ∃ k t, xs[i]? = some k ∧ v = V.val k t) :
    ∀ (m i : Nat) (s : Shared), n - i = m → i ≤ n → St i s → SK V s.heap S (xs.take i) → (∀ s', Moved (S :: wr) G s s' → SK V s'.heap S xs → R (.ok (.ret .none)) s') → codeAny (model P w) A (.builtin "set.update.loop" ⟨[.ref S, .ref I], []⟩) R s := by
  have nw : S ∉ wr := fun h => hS (W.sub _ h)
  have up : ∀ b ∈ wr, b ∈ S :: wr := fun b q => List.mem_cons_of_mem _ q
  intro m
  induction m with
  | zero =>
    intro i s hm hi st sk k
    obtain rfl : i = n := by omega
    refine codeAny_builtin PyProof.Rows.F.entry_set_update_loop ?_
    rw [Around.under_plainId PyProof.Rows.F.plain_set_update_loop _]
    show wpAny _ A.in1 (pyNext (.ref I) >>= _) _ _ s
    rw [List.take_of_length_le (by omega)] at sk
    refine wpAny_bind (W.done s _ _ st fun s' mv => ?_)
    show wpAny _ A.in1 (ret Value.none) _ _ s'
    exact wpAny_pure (k s' (mv.mono up) (sk.keep fun o e => mv.heap S o nw e))
  | succ m ih =>
    intro i s hm hi st sk k
    have lt : i < n := by omega
    refine codeAny_builtin PyProof.Rows.F.entry_set_update_loop ?_
    rw [Around.under_plainId PyProof.Rows.F.plain_set_update_loop _]
    show wpAny _ A.in1 (pyNext (.ref I) >>= _) _ _ s
    refine wpAny_bind (W.item i s _ _ lt st fun v s' pv st' mv => ?_)
    obtain ⟨z, t, hz, rfl⟩ := hval i v pv
    have sk' : SK V s'.heap S (xs.take i) := sk.keep fun o e => mv.heap S o nw e
    show wpAny _ A.in1 (holding [V.val z t] (setAdd S (V.val z t)) >>= _) _ _ s'
    refine wpAny_bind (wpAny_holding ?_)
    unfold setAdd
    refine wpAny_holding (wpAny_bind (V.knd.pyHash (k := z) ((V.isk z z t).2 rfl) ?_))
    refine sk_add (s := { s' with toks := s'.toks + 1 }) sk' (by rw [List.length_take]; omega) fun b h' sb sk2 => ?_
    have e2 : xs.take i ++ [z] = xs.take (i + 1) := by rw [List.take_add_one, hz]; rfl
    rw [e2] at sk2
    refine wpAny_pure ⟨plainId_quiet PyProof.Rows.F.plain_set_update_loop _, ih (i + 1) _ (by omega) lt (W.frame _ s' _ _ st' (Nat.le_succ _) fun c hc o e => ?_) sk2 fun s2 mv2 sk3 => ?_⟩
    · rw [sb.2 c (fun q : c = S => hS (by rw [← q]; exact hc))]; exact e
    · refine k s2 (Moved.trans W.gtrans ((mv.mono up).then_heap (Nat.le_succ _) fun c o hc e => ?_) mv2) sk3
      rw [sb.2 c (fun q : c = S => hc (by rw [q]; exact List.mem_cons_self))]; exact e
theorem sk_empty {h : Heap} (ho : h.get? a = some { cls := .type "set", dict := none, data := .set #[] 0 (.fresh 0 0 (!w.params.followText "set-order")) }) : SK V h a [] := by
  refine ⟨_, #[], 0, _, ho, ⟨rfl, rfl, rfl⟩, rfl, fun e he => by simp at he, by simp [KeyV.ks], fun k => by simp [KeyV.ks], by decide, by rfl, List.Pairwise.nil, ?_⟩
  show _ ∨ (!w.params.followText "set-order") = true
  cases w.params.followText "set-order"
  · exact .inr rfl
  · exact .inl rfl
/-- the new set as an object -/
abbrev eSet (w : World) : Obj := { cls := .type "set", dict := none, data := .set #[] 0 (.fresh 0 0 (!w.params.followText "set-order")) }
theorem sk_make {l : Addr} {its : Array Value} (xs : List κ) {Q : Value → Shared → Prop} (hh : A.handled = none) (hl : s.heap.IsList l its) (hn : its.size = xs.length) (hi : ∀ (i : Nat) (v : Value), its[i]? = some v → ∃ k t, xs[i]? = some k ∧ v = V.val k t) (hb : xs.length + 1 < scanBound)
    (q : ∀ (h' : Heap) (tk : Nat), SK V h' s.heap.objs.size xs → (∀ b o, s.heap.get? b = some o → h'.get? b = some o) → Q (.ref s.heap.objs.size) { s with heap := h', toks := tk }) : wpAny (model P w) A (call (.type "set") [.ref l]) Q E s := by
  obtain ⟨_, _, mro⟩ := PySem.F.called_set.mro
  have made := PySem.F.called_set.made
  have subt := PySem.F.called_set.sub
  refine wpAny_call (codeAny_of_tree ?_)
  show wpAny _ _ (callAny (.type "set") _) _ _ _
  refine wpAny_pure ⟨Code.quiet_builtin _ (by decide +kernel), codeAny_builtin PySem.F.entry_type_call ?_⟩
  rw [Around.under_plain (weight_type_call_type "set" [.ref l] []) rfl]
  have c1 := PySem.F.called_set.notType
  have c2 := PySem.F.called_set.canCreate
  have c3 := PySem.F.typeCall_set_1 (.ref l)
  repeat (any_goals (first | assumption | wp_step))
  refine codeAny_mono (code_set_led1 (.ref l) (E := E) (Q₁ := fun ob s' => ob = .ref s.heap.objs.size ∧ s' = { s with heap := s.heap.push (eSet w) }) ⟨rfl, rfl⟩) fun r s' hr => ?_
  cases r with
  | error e => exact hr
  | ok fl =>
    cases fl with
    | next => exact hr.elim
    | brk => exact hr.elim
    | cont => exact hr.elim
    | ret ob =>
      obtain ⟨rfl, rfl⟩ := hr
      have at0 : (s.heap.push (eSet w)).get? s.heap.objs.size = some (eSet w) := Heap.get?_push_size _ rfl
      have ty0 : Shared.TypeIs { s with heap := s.heap.push (eSet w) } (.ref s.heap.objs.size) "set" := ⟨_, at0, rfl⟩
      have i1 := PySem.F.called_set.init.lookup
      have i2 := PySem.F.called_set.init.bind (.ref s.heap.objs.size)
      repeat (any_goals (first | assumption | wp_step))
      refine codeAny_mono (codeAny_call_builtin (R := wants (fun r s2 => r = .none ∧ ∃ h' tk, s2 = { s with heap := h', toks := tk } ∧ SK V h' s.heap.objs.size xs ∧ ∀ b o, s.heap.get? b = some o → h'.get? b = some o) E) PySem.F.called_set.init.plain PySem.F.entry_set_init (check_set_init_1 ty0 ?_)) fun r2 s2 hr2 => ?_
      · obtain ⟨⟨oc, od, oda, os⟩, ol, cl, nl, dl⟩ := hl
        simp only at cl dl
        subst cl; subst dl
        have ol1 : (s.heap.push (eSet w)).get? l = some { cls := .type "list", dict := od, data := .seq its nl, slots := os } := Heap.get?_push_of_some _ ol
        have s1 := PySem.F.sub_list_set
        have s2 := PySem.F.sub_list_frozenset
        have nd : (Value.type "list" == Value.type "dict") = false := by decide
        have il : (s.heap.push (eSet w)).IsList l its := ⟨_, ol1, rfl, nl, rfl⟩
        unfold Builtin.«set.__init__» noKeywords Builtin.Frozenset.updateFrom
        generalize hPI : pyIter = PI
        wp_walk
        subst hPI
        refine wpAny_pyIter_list il (wpAny_bind (wpAny_runValue ?_))
        have la : l < s.heap.objs.size := Heap.lt_size ol
        have h3 : A.in1.in1.in1.handled = none := by simp [hh]
        have z1 : (s.heap.push (eSet w)).objs.size = s.heap.objs.size + 1 := Heap.size_push ..
        have neI : l ≠ (s.heap.push (eSet w)).objs.size := by rw [z1]; exact Nat.ne_of_lt (Nat.lt_succ_of_lt la)
        have ni : s.heap.objs.size ∉ [(s.heap.push (eSet w)).objs.size, l] := by
          rw [z1]
          intro hm
          rcases List.mem_cons.mp hm with e | e
          · exact Nat.ne_of_lt (Nat.lt_succ_self _) e
          · exact Nat.ne_of_gt la (List.mem_singleton.mp e)
        refine sk_loop ((Walks.list h3 _ l neI its).toS) s.heap.objs.size ni xs hn hb hi (its.size - 0) 0 _ (by omega) (Nat.zero_le _) ⟨⟨_, Heap.get?_push_size _ rfl, rfl, rfl⟩, il.push _⟩ ?hAA ?hBB
        case hAA => exact sk_empty (Heap.get?_push_of_some _ at0)
        case hBB =>
          intro s' mv sk
          obtain ⟨h', g2, d', tk', os'⟩ := s'
          have e1 : g2 = s.gens := mv.gens
          have e2 : d' = s.drawn := mv.drawn
          have e3 : os' = s.os := mv.os
          subst e1 e2 e3
          show wpAny _ _ _ _ _ _
          refine wpAny_pure ?_
          show wpAny _ _ (ret Value.none) _ _ _
          refine wpAny_pure ⟨rfl, h', tk', rfl, sk, fun b o e => ?_⟩
          have b0 : b < s.heap.objs.size := Heap.lt_size e
          refine mv.heap b o (fun hm => ?_) (Heap.get?_push_of_some _ (Heap.get?_push_of_some _ e))
          rcases List.mem_cons.mp hm with e | e
          · exact Nat.ne_of_lt b0 e
          · have e := List.mem_singleton.mp e
            rw [z1] at e
            exact Nat.ne_of_lt (Nat.lt_succ_of_lt b0) e
      · cases r2 with
        | error e => exact hr2
        | ok fl2 =>
          cases fl2 with
          | next => exact hr2.elim
          | brk => exact hr2.elim
          | cont => exact hr2.elim
          | ret r =>
            obtain ⟨rfl, h', tk, rfl, sk, kp⟩ := hr2
            repeat (any_goals (first | assumption | wp_step))
            exact q _ _ sk kp
end
end DV

set_option autoImplicit false
set_option linter.all false
set_option maxRecDepth 100000
set_option maxHeartbeats 3200000
/-! sorted(..) of data, of sets of keys. -/
namespace DV
open PySem PySem.Spec PyProof.Rows L2
open PySem.W (EachIs dataLe AllAlike Sortable alike)
/-! ### sorted(xs): the data, by their order -/
def rSortD (K : PySem.W.Frag) : List V → Hp → VK → Prop := fun xs H Q => ∃ (l : Addr) (vs : List V) (ds : List PyData), xs = [.ref l] ∧ SqL K H l vs ∧ DpAll K H vs ds ∧ AllAlike ds ∧ Sortable ds ∧ (∀ d ∈ ds, d.depth ≤ 60) ∧ ∀ p, H p = none → Q (.ref p) (upd H p (.lst (((vs.zip ds).mergeSort (dataLe false Prod.snd)).map Prod.fst)))
theorem vals_each {vs : List V} {us : List Value} {ds : List PyData} (h : Vals vs us) (hl : vs.length = ds.length) : EachIs (fun u b => RelV b.1 u) us (vs.zip ds) := by
  induction h generalizing ds with
  | nil => simp; exact .nil
  | @cons v u vs us r _ ih =>
    cases ds with
    | nil => cases hl
    | cons d ds => exact .cons r (ih (by simpa using hl))
theorem each_vals {us : List Value} {bs : List (V × PyData)} (h : EachIs (fun u b => RelV b.1 u) us bs) : Vals (bs.map Prod.fst) us := by
  induction h with
  | nil => exact .nil
  | cons r _ ih => exact .cons r ih
theorem dpAll_len {K : PySem.W.Frag} {H : Hp} {vs : List V} {ds : List PyData} (h : DpAll K H vs ds) : vs.length = ds.length := by
  induction ds generalizing vs with
  | nil => cases h; rfl
  | cons d ds ih => cases h with | cons _ t => rw [List.length_cons, List.length_cons, ih t]
section
variable {X : Cx}
theorem each_reads {pins : List (Addr × Obj)} {σ : L2.St} {H : Hp} {s : Shared} (I : Inv X pins σ H s) {vs : List V} {us : List Value} {ds : List PyData} (h : Vals vs us) (hd : DpAll X.K H vs ds) : EachIs (fun u (b : V × PyData) => ∃ as, Reads s.heap u b.2 as) us (vs.zip ds) := by
  induction h generalizing ds with
  | nil => cases hd; exact .nil
  | cons r _ ih => cases hd with | cons h1 h2 => exact .cons (Dp.reads I _ _ _ h1 r) (ih h2)
theorem cr_sortD (hu : X.A.units + 63 < cLine) : CallR X (.builtin "sorted") (rSortD X.K) := by
  intro pins s σ H xs us Q I r h
  obtain ⟨l, vs, ds, rfl, hS, hd, ha, hs, hp, q⟩ := h
  obtain ⟨u, rfl, ru⟩ := vals1 r
  cases (show u = Value.ref l from ru)
  obtain ⟨its, rv, pl, hz⟩ := I.list hS
  have hl := dpAll_len hd
  have em : (vs.zip ds).map Prod.snd = ds := by rw [List.map_snd_zip]; omega
  refine PySem.W.sorted_data (R := fun u (b : V × PyData) => RelV b.1 u) (enc := Prod.snd) (bs := vs.zip ds) pl.isList (vals_each rv hl) (each_reads I rv hd) (by rw [em]; exact ha) (by rw [em]; exact hs) (by rw [List.length_zip, ← hl, Nat.min_self]; exact hz) (fun b hb => ?_) fun out hlen ho => ?_
  · have := hp b.2 (List.of_mem_zip hb).2
    omega
  · obtain ⟨ep, he⟩ := PyProof.Rows.sortedAll_at s.heap its out.toArray
    have hz2 : (((vs.zip ds).mergeSort (dataLe false Prod.snd)).map Prod.fst).length ≤ sizeLine := by
      rw [List.length_map, (List.mergeSort_perm _ _).length_eq, List.length_zip, ← hl, Nat.min_self]
      exact hz
    have J : Inv X pins σ (upd H (s.heap.objs.size + 1) (.lst (((vs.zip ds).mergeSort (dataLe false Prod.snd)).map Prod.fst))) { s with heap := PyProof.Rows.sortedAll s.heap its out.toArray, toks := s.toks } :=
      I.laid (fun _ _ => PyProof.Rows.sortedAll_old) (Nat.le_succ _) ⟨hz2, out, ep, each_vals ho, he⟩
    exact ⟨.ref _, _, J, rfl, q _ (I.hok.fresh (Nat.le_succ _))⟩
end
section
variable {c : Ct} {cs : Cells} {Δ : Sts} {te : TE} {ds : List Dat}
theorem toPs_map : ∀ ds : List Dat, toPs ds = ds.map toP
  | [] => rfl
  | d :: ds => by rw [List.map_cons, ← toPs_map ds]; rfl
theorem Reps.of_map {K : PySem.W.Frag} {G : Hp} : ∀ {bs : List (V × Dat)}, (∀ b ∈ bs, Rep K G b.2 b.1) → Reps K G (bs.map Prod.snd) (bs.map Prod.fst)
  | [], _ => rfl
  | b :: bs, h => ⟨b.1, _, rfl, h b List.mem_cons_self, Reps.of_map fun x hx => h x (List.mem_cons_of_mem _ hx)⟩
theorem Reps.zip_mem {K : PySem.W.Frag} {G : Hp} : ∀ {ds : List Dat} {vs : List V}, Reps K G ds vs → ∀ b ∈ vs.zip ds, Rep K G b.2 b.1
  | [], vs, h, b, hb => by simp at hb
  | d :: ds, vs, h, b, hb => by
    obtain ⟨v, r, rfl, h1, h2⟩ := h
    rcases List.mem_cons.mp hb with rfl | hb
    · exact h1
    · exact Reps.zip_mem h2 b hb
/-- the data, sorted -/
def srtD (ds : List Dat) : List Dat := ds.mergeSort (dataLe false toP)
theorem d_sortN (hp : plains ds = true) (ha : AllAlike (ds.map toP)) (hs : Sortable (ds.map toP)) (hd : ∀ d ∈ ds, (toP d).depth ≤ 60) (h : EVD c cs Δ te (.lst ds)) : EVN c cs Δ (tCB (rSortD c.K) (tCons te tNil)) fun es => es = srtD ds := fun σ G H s I R Q k =>
  h σ G H s I R _ fun d v G1 H1 e s1 rd => by
    subst e
    obtain ⟨a, vs, rfl, hq, rs⟩ := rd
    refine ⟨a, vs, _, rfl, ex_l s1.i hq, Reps.dp ds vs hp (rs.mono s1.i), by rw [toPs_map]; exact ha, by rw [toPs_map]; exact hs, fun d hd' => ?_, fun p hp0 => ?_⟩
    · rw [toPs_map] at hd'
      obtain ⟨x, hx, rfl⟩ := List.mem_map.mp hd'
      exact hd x hx
    · have I1 := s1.inn I
      have n := Step.aside I1 (o := .lst (((vs.zip (toPs ds)).mergeSort (dataLe false Prod.snd)).map Prod.fst)) hp0
      have no : ¬ c.W.own p := fun z => c.W.has _ I1.ok p z hp0
      have hpH : H p = none := by
        cases q : H p with
        | none => rfl
        | some o => rw [s1.h p o no q] at hp0; cases hp0
      refine k (srtD ds) p _ G1 _ rfl hpH (I1.ex.none_of hp0) no (s1.trans n) upd_same ?_
      have e1 : (vs.zip (toPs ds)).mergeSort (dataLe false Prod.snd) = ((vs.zip ds).mergeSort (dataLe false fun b => toP b.2)).map fun b => (b.1, toP b.2) := by
        rw [List.map_mergeSort (s := dataLe false Prod.snd) (r := dataLe false fun b : V × Dat => toP b.2) (fun a _ b _ => rfl), toPs_map, List.zip_map_right]
        rfl
      have e2 : srtD ds = ((vs.zip ds).mergeSort (dataLe false fun b => toP b.2)).map Prod.snd := by
        rw [List.map_mergeSort (s := dataLe false toP) (r := dataLe false fun b : V × Dat => toP b.2) (fun a _ b _ => rfl), List.map_snd_zip (by rw [rs.len]; exact Nat.le_refl _)]
        rfl
      rw [e1, e2, List.map_map]
      exact Reps.of_map fun b hb => rs.zip_mem b ((List.mergeSort_perm _ _).mem_iff.mp hb)
end
end DV

set_option autoImplicit false
set_option linter.all false
set_option maxRecDepth 100000
set_option maxHeartbeats 3200000
/-! sorted(set(xs)) of ints, of texts. -/
namespace DV
open PySem PySem.Spec PyProof.Rows L2
open PySem.W (EachIs dataLe AllAlike Sortable alike)
section
variable {P : Program} {w : World} {κ : Type} [DecidableEq κ] {V0 : KeyV P w κ} {A : Around} {E : Value → Shared → Prop} {s : Shared} {a : Addr} {ks : List κ}
theorem each_of_key {vs : List Value} (h : ∀ v ∈ vs, ∃ t, v = V0.val (V0.key v) t) : EachIs (fun v k => ∃ t, v = V0.val k t) vs (vs.map V0.key) := by
  induction vs with
  | nil => exact .nil
  | cons v vs ih => exact .cons (h v List.mem_cons_self) (ih fun x hx => h x (List.mem_cons_of_mem _ hx))
/-- sorted(a set of keys): the keys once each, by their order -/
theorem sk_sorted {Q : Value → Shared → Prop} (S : SK V0 s.heap a ks) (hh : A.handled = none) (hu : A.units + 3 < cLine) (room : ks.length < 100000)
    (q : ∀ s' p (out : List Value) (c : Nat) (os : List κ), (∀ b o, s.heap.get? b = some o → s'.heap.get? b = some o) → s'.gens = s.gens → s'.os = s.os → s.heap.objs.size ≤ p → s'.heap.get? p = some (seqObj "list" out.toArray c) →
      EachIs (fun v k => ∃ t, v = V0.val k t) out os → os.Nodup → (∀ k, k ∈ os ↔ k ∈ ks) → os.Pairwise (fun x y => dataLe false V0.enc x y = true) → os.length ≤ ks.length → Q (.ref p) s') :
    wpAny (model P w) A (call (.builtin "sorted") [.ref a]) Q E s := by
  obtain ⟨o, es, ep, t, ho, hx, hd, T⟩ := S
  refine Calls.call_function_entry kind_sorted plain_sorted entry_sorted (args_sorted1 _) ?_
  unfold Builtin.«sorted»
  refine wpAny_bind (m := checkCount "sorted" 1 1 _) (wpAny_pure (wpAny_bind (collect_set (A := A.in1) hh ⟨o, ho, hx.1, hd⟩ T.fit T.sz T.ris T.led fun s1 vs k1 hz g1 o1 pm => ?_)))
  have good : ∀ v ∈ vs, ∃ t, v = V0.val (V0.key v) t := fun v hv => by
    obtain ⟨e, he, ee⟩ := List.mem_map.mp (pm.mem_iff.mp hv)
    obtain ⟨t, h1, _⟩ := T.good e he
    exact ⟨t, ee ▸ h1⟩
  have pk : (vs.map V0.key).Perm (V0.ks es) := by
    have q := pm.map V0.key
    rw [List.map_map] at q
    exact q
  have len : es.size ≤ ks.length := by
    have q := nodup_le T.nd fun x hx => (T.mem x).1 hx
    unfold KeyV.ks at q
    rw [List.length_map, Array.length_toList] at q
    exact q
  have hvl : vs.length = es.size := by rw [pm.length_eq, List.length_map, Array.length_toList]
  have hsl : vs.length ≤ sizeLine := by rw [hvl, sizeLine_eq]; omega
  refine wpAny_bind (wpAny_newList ?_ hsl)
  have hoL : (s1.heap.push (seqObj "list" vs.toArray 0)).get? s1.heap.objs.size = some (seqObj "list" vs.toArray 0) := Heap.get?_push_size _ rfl
  have eo := each_of_key good
  have al : AllAlike ((vs.map V0.key).map V0.enc) := AllAlike.of V0.al
  have so : Sortable ((vs.map V0.key).map V0.enc) := Sortable.others V0.ot
  refine wpAny_bind (wpAny_holding (PySem.W.list_sort_data (R := fun v k => ∃ t, v = V0.val k t) (enc := V0.enc) (bs := vs.map V0.key) hoL eo (eo.mono fun v k ⟨t, e⟩ => ⟨[], by rw [e]; exact V0.rd _ k t, List.not_mem_nil⟩) al so (by rw [List.length_map]; exact hsl) (fun b _ => ?_) fun out h1 h2 => ?_))
  · rw [V0.dp b]
    show A.units + 1 + 1 + 0 < cLine
    omega
  · obtain ⟨c, hc⟩ := PyProof.Rows.sortedHeap_at (vs := vs) (out := out.toArray) hoL
    have pp := List.mergeSort_perm (vs.map V0.key) (dataLe false V0.enc)
    have tot : PySem.W.TotalLe (dataLe false V0.enc) := PySem.W.sortLe_total _ false _
    have tr : ∀ x y z : κ, dataLe false V0.enc x y = true → dataLe false V0.enc y z = true → dataLe false V0.enc x z = true := tot.trans
    have tt : ∀ x y : κ, (dataLe false V0.enc x y || dataLe false V0.enc y x) = true := fun x y => by
      rcases tot.total x y with h | h
      · rw [Bool.or_eq_true]; exact .inl h
      · rw [Bool.or_eq_true]; exact .inr h
    refine wpAny_pure ⟨_, rfl, q _ s1.heap.objs.size out c _ (fun b u e => ?_) g1 o1 hz hc h2 ((pp.trans pk).nodup_iff.mpr T.nd) (fun k => ((pp.trans pk).mem_iff).trans (T.mem k)) (List.pairwise_mergeSort tr tt _) ?_⟩
    · have e1 := k1 b u e
      have lt := Heap.lt_size e1
      show (sortedHeap (s1.heap.push (seqObj "list" vs.toArray 0)) s1.heap.objs.size vs out.toArray).get? b = some u
      rw [sortedHeap_old (Nat.ne_of_lt lt) (by rw [size_push']; exact Nat.lt_succ_of_lt lt)]
      exact Heap.get?_push_of_some _ e1
    · rw [(pp.trans pk).length_eq]
      unfold KeyV.ks
      rw [List.length_map, Array.length_toList]
      exact len
end
/-! ints and texts as keys -/
def keyI (P : Program) (w : World) : KeyV P w Int where
  knd := PySem.intKind P w
  val := .int
  key := Builtin.Re.reRawOf
  kmk _ _ := rfl
  isk j k t := by
    show ((j == k) = true) ↔ j = k
    exact beq_iff_eq
  scn _ _ := rfl
  enc := .int
  rd _ k t := .int k t
  al _ _ := rfl
  ot _ := ⟨(fun z => nomatch z), fun _ z => nomatch z⟩
  dp _ := rfl
def strKey : Value → Str
  | .str x _ => x
  | _ => Str.empty
def keyS (P : Program) (w : World) : KeyV P w Str where
  knd := PySem.strKind P w
  val := .str
  key := strKey
  kmk _ _ := rfl
  isk j k t := by
    show ((Value.str j t).isStrOf k = true) ↔ j = k
    simp [Value.isStrOf]
  scn _ _ := rfl
  enc := .str
  rd _ k t := .str k t
  al _ _ := rfl
  ot _ := ⟨(fun z => nomatch z), fun _ z => nomatch z⟩
  dp _ := rfl
theorem vals_kv {P : Program} {w : World} {κ : Type} [DecidableEq κ] {V0 : KeyV P w κ} {vv : κ → V} (hv : ∀ k t, RelV (vv k) (V0.val k t)) {os : List κ} {out : List Value} (h : EachIs (fun v k => ∃ t, v = V0.val k t) out os) : Vals (os.map vv) out := by
  induction h with
  | nil => exact .nil
  | cons r _ ih =>
    obtain ⟨t, rfl⟩ := r
    exact .cons (hv _ t) ih
theorem vals_get {P : Program} {w : World} {κ : Type} [DecidableEq κ] {V0 : KeyV P w κ} {vv : κ → V} (hv : ∀ k u, RelV (vv k) u → ∃ t, u = V0.val k t) {ks : List κ} {us : List Value} (h : Vals (ks.map vv) us) : ∀ (i : Nat) (u : Value), us[i]? = some u → ∃ k t, ks[i]? = some k ∧ u = V0.val k t := by
  intro i u hu
  induction ks generalizing us i with
  | nil => cases h; simp at hu
  | cons k ks ih =>
    cases h with
    | cons r t =>
      cases i with
      | zero =>
        simp at hu
        subst hu
        obtain ⟨t, e⟩ := hv k _ r
        exact ⟨k, t, rfl, e⟩
      | succ i => exact ih t i (by simpa using hu)
/-- the answers of sorted(set(xs)) -/
def SSet (K : PySem.W.Frag) (κ : Type) (vv : κ → V) (le : κ → κ → Prop) (l : Addr) (H : Hp) (Q : VK) : Prop := ∃ ks : List κ, SqL K H l (ks.map vv) ∧ ks.length ≤ 1000 ∧ ∀ (os : List κ) (p : Addr), os.Nodup → (∀ k, k ∈ os ↔ k ∈ ks) → os.Pairwise le → os.length ≤ ks.length → H p = none → Q (.ref p) (upd H p (.lst (os.map vv)))
def strLe (x y : Str) : Prop := x.cps.toList ≤ y.cps.toList
def tSSet (K : PySem.W.Frag) (ta : TE) : TE := fun σ H Q => ta σ H fun x H1 => ∃ l, x = .ref l ∧ (SSet K Int V.int (· ≤ ·) l H1 Q ∨ SSet K Str V.str strLe l H1 Q)
section
variable {X : Cx} {a : Expr} {ta : TE} {p p2 q pos : Pos}
theorem pe_sortedSet (hc : X.calm = true) (hu : X.A.units + 3 < cLine) (hg : Gl X "sorted") (hm : X.mg "sorted" = none) (hg2 : Gl X "set") (hm2 : X.mg "set" = none) (ha : PE X a ta) (na : starEach [a] X.env = (false, eval a X.env) :: starEach [] X.env := by rfl) :
    PE X (.Call (.Name "sorted" p) [.Call (.Name "set" p2) [a] [] q] [] pos) (tSSet X.K ta) := by
  refine ⟨fun pins s σ H Q I h => Call_ (ld_blt I hg hm PyProof.Rows.boot_sorted ?_)⟩
  refine PyProof.Rows.callWith_builtin1 (PyProof.Rows.args_cons (Call_ (ld_blt I hg2 hm2 boot_set ?_)) rfl) rfl rfl
  refine PyProof.Rows.callWith_type1 (PyProof.Rows.args_cons (thn (ha.run pins s σ H _ I h) fun v s1 ⟨x, H1, I1, r1, q1⟩ => PyProof.Rows.args_nil ?_) na) na rfl
  obtain ⟨l, rfl, q1⟩ := q1
  cases (show v = Value.ref l from r1)
  have fin : ∀ (κ : Type) [DecidableEq κ] (V0 : KeyV X.prog X.w κ) (vv : κ → V) (le : κ → κ → Prop), (∀ k u, RelV (vv k) u → ∃ t, u = V0.val k t) → (∀ k t, RelV (vv k) (V0.val k t)) → (∀ x y, dataLe false V0.enc x y = true → le x y) → SSet X.K κ vv le l H1 Q →
      wpAny (model X.prog X.w) X.A (call (.type "set") [.ref l]) (fun v s₂ => wpAny (model X.prog X.w) X.A (spliced (backTo pos (starEach [] X.env))) (fun vs s₂ => wpAny (model X.prog X.w) X.A (call (.builtin "sorted") (v :: vs)) (EP X pins σ Q) X.xe s₂) X.xe s₂) X.xe s1 := by
    intro κ _ V0 vv le h1 h2 h3 ⟨ks, hS, hl, k⟩
    obtain ⟨its, rv, pl, hz⟩ := I1.list hS
    have ln : its.toArray.size = ks.length := by rw [List.size_toArray, ← rv.length, List.length_map]
    refine sk_make (V := V0) ks (I1.ok.hd hc) pl.isList ln (fun i u hu => vals_get h1 rv i u (by simpa using hu)) (by unfold scanBound; omega) fun h' tk sk kp => PyProof.Rows.args_nil ?_
    have I2 : Inv X pins σ H1 { s1 with heap := h', toks := tk } := I1.kept kp
    refine sk_sorted (V0 := V0) sk (I2.ok.hd hc) hu (by omega) fun s' b out c os k2 g2 o2 hb hg' he nd mm pw ll => ?_
    have hn : H1 b = none := I2.hok.fresh hb
    have hsz : (os.map vv).length ≤ sizeLine := by rw [List.length_map, sizeLine_eq]; omega
    have J : Inv X pins σ (upd H1 b (.lst (os.map vv))) { s1 with heap := s'.heap, gens := s'.gens, drawn := s'.drawn, toks := s'.toks } :=
      Inv.call (s := { s1 with heap := h', toks := tk }) (ch := []) I2 (Un.laid k2 hb hn) (I2.hok.laid k2 hb ⟨hsz, out, c, vals_kv h2 he, hg'⟩) (by rw [g2]; exact I2.bare) (fun _ z => nomatch z)
    have e : s' = { s1 with heap := s'.heap, gens := s'.gens, drawn := s'.drawn, toks := s'.toks } := by
      obtain ⟨z1, z2, z3, z4, z5⟩ := s'
      cases (show z5 = s1.os from o2)
      rfl
    rw [e]
    exact ⟨.ref b, _, J, rfl, k os b nd mm (pw.imp fun {x y} z => h3 x y z) ll hn⟩
  rcases q1 with q1 | q1
  · refine fin Int (keyI _ _) V.int _ (fun k u r => r) (fun k t => ⟨t, rfl⟩) (fun x y z => ?_) q1
    rw [show (keyI X.prog X.w).enc = fun b : Int => PyData.int ((fun b => b) b) from rfl, PySem.W.dataLe_int] at z
    simpa using z
  · refine fin Str (keyS _ _) V.str _ (fun k u r => r) (fun k t => ⟨t, rfl⟩) (fun x y z => ?_) q1
    rw [show (keyS X.prog X.w).enc = fun b : Str => PyData.str ((fun b => b) b) from rfl, PySem.W.dataLe_str] at z
    simpa [strLe] using z
end
section
variable {c : Ct} {cs : Cells} {Δ : Sts} {te : TE}
theorem en_sset {κ : Type} {vv : κ → V} {dd : κ → Dat} {le : κ → κ → Prop} {ks : List κ} (hr : ∀ K G k, Rep K G (dd k) (vv k)) (hr' : ∀ K G k v, Rep K G (dd k) v → v = vv k) (hw : ∀ l H Q, SSet c.K κ vv le l H Q → (SSet c.K Int V.int (· ≤ ·) l H Q ∨ SSet c.K Str V.str strLe l H Q)) (hl : ks.length ≤ 1000)
    (h : EVD c cs Δ te (.lst (ks.map dd))) : EVN c cs Δ (tSSet c.K te) fun es => ∃ os : List κ, es = os.map dd ∧ os.Nodup ∧ (∀ k, k ∈ os ↔ k ∈ ks) ∧ os.Pairwise le := fun σ G H s I R Q k =>
  h σ G H s I R _ fun d v G1 H1 e s1 rd => by
    subst e
    obtain ⟨a, vs, rfl, hq, rs⟩ := rd
    have ev : vs = ks.map vv := by
      clear h k hq hl
      induction ks generalizing vs with
      | nil => exact rs
      | cons x ks ih =>
        obtain ⟨v, r, rfl, h2, h3⟩ := rs
        rw [ih r h3, hr' _ _ _ _ h2]
        rfl
    subst ev
    have I1 := s1.inn I
    refine ⟨a, rfl, hw a H1 Q ⟨ks, ex_l s1.i hq, hl, fun os p nd mm pw ll hp => ?_⟩⟩
    have n := Step.aside I1 (o := .lst (os.map vv)) hp
    have no : ¬ c.W.own p := fun z => c.W.has _ I1.ok p z hp
    have hpH : H p = none := by
      cases q : H p with
      | none => rfl
      | some o => rw [s1.h p o no q] at hp; cases hp
    refine k (os.map dd) p _ G1 _ ⟨os, rfl, nd, mm, pw⟩ hpH (I1.ex.none_of hp) no (s1.trans n) upd_same ?_
    clear pw nd mm n k ll
    induction os with
    | nil => rfl
    | cons x os ih => exact ⟨_, _, rfl, hr _ _ _, ih⟩
theorem en_ssetI {ks : List Int} (hl : ks.length ≤ 1000) (h : EVD c cs Δ te (.lst (ks.map Dat.int))) : EVN c cs Δ (tSSet c.K te) fun es => ∃ os : List Int, es = os.map Dat.int ∧ os.Nodup ∧ (∀ k, k ∈ os ↔ k ∈ ks) ∧ os.Pairwise (· ≤ ·) :=
  en_sset (vv := V.int) (fun _ _ _ => rfl) (fun _ _ _ _ h => h) (fun _ _ _ h => .inl h) hl h
theorem en_ssetS {ks : List Str} (hl : ks.length ≤ 1000) (h : EVD c cs Δ te (.lst (ks.map Dat.str))) : EVN c cs Δ (tSSet c.K te) fun es => ∃ os : List Str, es = os.map Dat.str ∧ os.Nodup ∧ (∀ k, k ∈ os ↔ k ∈ ks) ∧ os.Pairwise strLe :=
  en_sset (vv := V.str) (fun _ _ _ => rfl) (fun _ _ _ _ h => h) (fun _ _ _ h => .inr h) hl h
end
end DV

set_option autoImplicit false
set_option linter.all false
set_option maxRecDepth 100000
set_option maxHeartbeats 2000000
/-! Texts, parts of lists, membership, dicts: readings and what they make of data. -/
namespace DV
open PySem PySem.Spec PyProof.Rows L2
/-! ### readings -/
section
variable (K : PySem.W.Frag)
def rInT : R2 := fun x y H Q => ∃ i j, x = .str i ∧ y = .str j ∧ Q (.bl (!(Builtin.Str.occurrences j i 0 j.length 1).isEmpty)) H
def bIn : R2 := fun x y H Q => rInS x y H Q ∨ rInT x y H Q ∨ rIn K false x y H Q ∨ rInD K x y H Q
def rNotInT : R2 := fun x y H Q => ∃ i j, x = .str i ∧ y = .str j ∧ Q (.bl (!(!(Builtin.Str.occurrences j i 0 j.length 1).isEmpty))) H
def bNotIn : R2 := fun x y H Q => rNotInS x y H Q ∨ rNotInT x y H Q ∨ rIn K true x y H Q ∨ rNotInD K x y H Q
def bLtA : R2 := fun x y H Q => rI0 (fun i j => .bl (decide (i < j))) x y H Q ∨ (fun (x y : V) (H : Hp) (Q : VK) => ∃ i j, x = .str i ∧ y = .str j ∧ Q (.bl (decide (i.cps.toList < j.cps.toList))) H) x y H Q
def bIsNot : R2 := fun x y H Q => rNotN x y H Q ∨ rNotB x y H Q
def bSl : V → Option Int → Option Int → Hp → VK → Prop := fun x lo hi H Q => rSlL K x lo hi H Q ∨ rSlA K x lo hi H Q ∨ rSlS x lo hi H Q
def bLst : List V → Hp → VK → Prop := fun xs H Q => ∃ p ys, xs = [.ref p] ∧ (SqL K H p ys ∨ SqT K H p ys) ∧ ∀ l, H l = none → Q (.ref l) (upd H l (.lst ys))
def rJoin : V → List V → Hp → VK → Prop := fun x xs H Q => ∃ a p, ∃ ys : List Str, x = .str a ∧ xs = [.ref p] ∧ (SqL K H p (ys.map V.str) ∨ SqT K H p (ys.map V.str)) ∧ (ys.map (·.length)).sum + ys.length * a.length ≤ 16777216 ∧ Q (.str (Txt.join a ys)) H
end
section
variable {X : Cx}
theorem o_in (hu : X.A.units + 65 < cLine) : OpR X (compareOp .In) (bIn X.K) := op_inS.or (op_in_str.or (op_in_seq.or (op_inD hu)))
theorem o_notIn (hu : X.A.units + 65 < cLine) : OpR X (compareOp .NotIn) (bNotIn X.K) := op_notInS.or (op_notIn_str.or (op_notIn_seq.or (op_notInD hu)))
theorem o_ltA : OpR X (compareOp .Lt) bLtA := op_lt.or op_lt_str
theorem o_isNot : OpR X (compareOp .IsNot) bIsNot := op_notN1.or op_notBl
theorem o_sl : SlR X (bSl X.K) := sl_list.or (sl_tupA.or sl_str)
theorem k_lst : CallR X (.type "list") (bLst X.K) := call_list_of
end
/-! ### what they make of data -/
section
variable {c : Ct} {cs : Cells} {Δ : Sts} {te ta tb tc to : TE} {a b d : Dat} {ds : List Dat} {P : Dat → Prop} {p q : Bool}
/-- the place i of a text -/
abbrev sgn (k : Nat) : Str := ⟨#[k]⟩
theorem d_inC {k : Nat} {z : Str} : ROD c cs (bIn c.K) (.str (sgn k)) (.str z) (.bl (decide (k ∈ z.cps.toList))) := fun G H x y I R ra rb Q q => .inl ⟨k, z, ra, rb, q _ _ G H rfl (Step.refl I) rfl⟩
theorem d_inT {x z : Str} : ROP c cs (bIn c.K) (.str x) (.str z) (fun d => ∃ b, d = .bl b) := fun G H u v I R ra rb Q q => .inr (.inl ⟨x, z, ra, rb, q _ _ G H ⟨_, rfl⟩ (Step.refl I) rfl⟩)
theorem d_notInC {k : Nat} {z : Str} : ROD c cs (bNotIn c.K) (.str (sgn k)) (.str z) (.bl (!decide (k ∈ z.cps.toList))) := fun G H x y I R ra rb Q q => .inl ⟨k, z, ra, rb, q _ _ G H rfl (Step.refl I) rfl⟩
theorem Reps.ints_v {K : PySem.W.Frag} {G : Hp} {ks : List Int} {vs : List V} (r : Reps K G (ks.map Dat.int) vs) : vs = ks.map V.int := Reps.ints_of r
theorem inV_int (i : Int) (ks : List Int) : inV (.int i) (ks.map V.int) = decide (i ∈ ks) := by
  unfold inV
  rw [List.any_map, Bool.eq_iff_iff, List.any_eq_true, decide_eq_true_eq]
  constructor
  · rintro ⟨x, hx, e⟩
    have : x = i := by simpa [eqV] using e
    exact this ▸ hx
  · intro h
    exact ⟨i, h, by simp [eqV]⟩
theorem flat_ints (ks : List Int) : (ks.map V.int).all flatV = true := by
  rw [List.all_map]
  exact List.all_eq_true.mpr fun _ _ => rfl
theorem d_inI {i : Int} {ks : List Int} : ROD c cs (bIn c.K) (.int i) (.lst (ks.map Dat.int)) (.bl (decide (i ∈ ks))) := fun G H x y I R ra rb Q q => by
  obtain ⟨a, vs, rfl, hq, rs⟩ := rb
  rw [rs.ints_v] at hq
  rw [show x = V.int i from ra]
  exact .inr (.inr (.inl ⟨a, _, rfl, .inl (ex_l I.ex hq), rfl, flat_ints ks, by rw [if_neg (by decide), inV_int]; exact q _ _ G H rfl (Step.refl I) rfl⟩))
theorem d_inIT {i : Int} {ks : List Int} : ROD c cs (bIn c.K) (.int i) (.tup (ks.map Dat.int)) (.bl (decide (i ∈ ks))) := fun G H x y I R ra rb Q q => by
  obtain ⟨a, vs, rfl, hq, rs⟩ := rb
  rw [rs.ints_v] at hq
  rw [show x = V.int i from ra]
  exact .inr (.inr (.inl ⟨a, _, rfl, .inr (ex_t I.ex hq), rfl, flat_ints ks, by rw [if_neg (by decide), inV_int]; exact q _ _ G H rfl (Step.refl I) rfl⟩))
theorem d_notInI {i : Int} {ks : List Int} : ROD c cs (bNotIn c.K) (.int i) (.lst (ks.map Dat.int)) (.bl (!decide (i ∈ ks))) := fun G H x y I R ra rb Q q => by
  obtain ⟨a, vs, rfl, hq, rs⟩ := rb
  rw [rs.ints_v] at hq
  rw [show x = V.int i from ra]
  exact .inr (.inr (.inl ⟨a, _, rfl, .inl (ex_l I.ex hq), rfl, flat_ints ks, by rw [if_pos rfl, inV_int]; exact q _ _ G H rfl (Step.refl I) rfl⟩))
theorem d_notInIT {i : Int} {ks : List Int} : ROD c cs (bNotIn c.K) (.int i) (.tup (ks.map Dat.int)) (.bl (!decide (i ∈ ks))) := fun G H x y I R ra rb Q q => by
  obtain ⟨a, vs, rfl, hq, rs⟩ := rb
  rw [rs.ints_v] at hq
  rw [show x = V.int i from ra]
  exact .inr (.inr (.inl ⟨a, _, rfl, .inr (ex_t I.ex hq), rfl, flat_ints ks, by rw [if_pos rfl, inV_int]; exact q _ _ G H rfl (Step.refl I) rfl⟩))
theorem d_inD (h1 : shp a = true) (h2 : shp (.lst ds) = true) : ROD c cs (bIn c.K) a (.lst ds) (.bl (ds.any fun z => PyData.eqv (toP z) (toP a))) := fun G H u v I R ra rb Q q => by
  obtain ⟨p1, s1⟩ := Bool.and_eq_true_iff.mp h1
  obtain ⟨p2, s2⟩ := Bool.and_eq_true_iff.mp h2
  refine .inr (.inr (.inr ⟨_, toPs ds, Rep.dp a u p1 (ra.mono I.ex), Rep.dp _ v p2 (rb.mono I.ex), s1, s2, ?_⟩))
  rw [toPs_map, List.any_map]
  exact q _ _ G H rfl (Step.refl I) rfl
theorem d_notInD (h1 : shp a = true) (h2 : shp (.lst ds) = true) : ROD c cs (bNotIn c.K) a (.lst ds) (.bl (!ds.any fun z => PyData.eqv (toP z) (toP a))) := fun G H u v I R ra rb Q q => by
  obtain ⟨p1, s1⟩ := Bool.and_eq_true_iff.mp h1
  obtain ⟨p2, s2⟩ := Bool.and_eq_true_iff.mp h2
  refine .inr (.inr (.inr ⟨_, toPs ds, Rep.dp a u p1 (ra.mono I.ex), Rep.dp _ v p2 (rb.mono I.ex), s1, s2, ?_⟩))
  rw [toPs_map, List.any_map]
  exact q _ _ G H rfl (Step.refl I) rfl
theorem d_ltI {i j : Int} : ROD c cs bLtA (.int i) (.int j) (.bl (decide (i < j))) := fun G H x y I R ra rb Q q => .inl (d_lt G H x y I R ra rb Q q)
theorem d_ltS {i j : Str} : ROD c cs bLtA (.str i) (.str j) (.bl (decide (i.cps.toList < j.cps.toList))) := fun G H x y I R ra rb Q q => .inr ⟨i, j, ra, rb, q _ _ G H rfl (Step.refl I) rfl⟩
def nonD : Dat → Bool
  | .non => true
  | .obj u => decide (u = .non)
  | _ => false
theorem nonD_ok {K : PySem.W.Frag} {G : Hp} {x : V} (ra : Rep K G a x) : decide (x = V.non) = nonD a := by
  cases a with
  | non => rw [show x = V.non from ra]; rfl
  | bl b => rw [show x = V.bl b from ra]; rfl
  | int b => rw [show x = V.int b from ra]; rfl
  | str b => rw [show x = V.str b from ra]; rfl
  | tup b => obtain ⟨a, xs, rfl, _⟩ := ra; rfl
  | lst b => obtain ⟨a, xs, rfl, _⟩ := ra; rfl
  | ins C fs b => obtain ⟨a, dx, xs, rfl, _⟩ := ra; rfl
  | dct ks b => obtain ⟨a, xs, rfl, _⟩ := ra; rfl
  | key k => obtain ⟨a, rfl, _⟩ := ra; rfl
  | dcT ks b => obtain ⟨a, xs, rfl, _⟩ := ra; rfl
  | obj u => rw [show x = u from ra]; rfl
theorem d_isNotN : ROD c cs bIsNot a .non (.bl (!nonD a)) := fun G H x y I R ra rb Q q => .inl ⟨rb, by rw [nonD_ok ra]; exact q _ _ G H rfl (Step.refl I) rfl⟩
theorem d_isN : ROD c cs bIs a .non (.bl (nonD a)) := fun G H x y I R ra rb Q q => .inr ⟨rb, by rw [nonD_ok ra]; exact q _ _ G H rfl (Step.refl I) rfl⟩
theorem d_isNotB {i j : Bool} : ROD c cs bIsNot (.bl i) (.bl j) (.bl (!decide (i = j))) := fun G H x y I R ra rb Q q => .inr ⟨i, j, ra, rb, q _ _ G H rfl (Step.refl I) rfl⟩
/-! a text's sign, parts -/
theorem d_ixS {z : Str} {i : Int} {k : Nat} (hz : z.length ≤ sizeLine) (h : L2.atI z.cps.toList i = some k) : ROD c cs (rIx c.K) (.str z) (.int i) (.str (sgn k)) := fun G H u v I R ra rb Q q => .inr (.inr ⟨z, i, k, ra, rb, hz, h, q _ _ G H rfl (Step.refl I) rfl⟩)
theorem d_ixK {ks : List Key} {i : Int} {k : Key} (h : L2.atI ks i = some k) : ROP c cs (rIx c.K) (.key ks) (.int i) (fun d => d = match k with | .inl j => .int j | .inr x => .str x) := fun G H u v I R ra rb Q q => by
  obtain ⟨p, rfl, hp⟩ := ra
  refine .inr (.inl ⟨p, ks.map kV, i, kV k, rfl, rb, .inl (.inl (I.ex _ _ hp)), ?_, ?_⟩)
  · unfold L2.atI at h ⊢
    rw [List.length_map]
    cases e : L2.ixN ks.length i with
    | none => rw [e] at h; cases h
    | some j =>
      rw [e] at h
      show (ks.map kV)[j]? = some (kV k)
      have h' : ks[j]? = some k := h
      rw [List.getElem?_map, h']
      rfl
  · cases k with
    | inl j => exact q _ _ G H rfl (Step.refl I) rfl
    | inr x => exact q _ _ G H rfl (Step.refl I) rfl
def EVO (c : Ct) (cs : Cells) (Δ : Sts) (t : TO) (o : Option Int) : Prop :=
  ∀ σ G H, Sig c.K G σ Δ → Inn c.K c.W cs G H → Raises c G H → ∀ Q : Option Int → Hp → Prop, (∀ G2 H2, Step c.W G H G2 H2 → Q o H2) → t σ H Q
theorem eo_none : EVO c cs Δ tNoPart none := fun σ G H s I R Q q => q G H (Step.refl I)
theorem eo_some {i : Int} (h : EVD c cs Δ te (.int i)) : EVO c cs Δ (tPart te) (some i) := fun σ G H s I R Q q =>
  h σ G H s I R _ fun d v G1 H1 e s1 rd => by
    subst e
    exact ⟨i, rd, q G1 H1 s1⟩
def cutD (xs : List Dat) (lo hi : Option Int) : List Dat := (xs.drop (HT.sIx xs.length 0 lo)).take (HT.sIx xs.length xs.length hi - HT.sIx xs.length 0 lo)
theorem Reps.cut {K : PySem.W.Frag} {G : Hp} {vs : List V} {lo hi : Option Int} (r : Reps K G ds vs) : Reps K G (cutD ds lo hi) (cutV vs lo hi) := by
  unfold cutD cutV
  rw [r.len]
  exact (r.drop _).take _
variable {tl th : TO} {lo hi : Option Int}
theorem ev_slN (h : EVD c cs Δ te (.lst ds)) (h1 : EVO c cs Δ tl lo) (h2 : EVO c cs Δ th hi) : EVD c cs Δ (tSl (bSl c.K) te tl th) (.lst (cutD ds lo hi)) := fun σ G H s I R Q q =>
  h σ G H s I R _ fun d v G1 H1 e s1 rd => h1 σ G1 H1 (s.mono s1.g) (s1.inn I) (R.on s1) _ fun G2 H2 s2 => h2 σ G2 H2 ((s.mono s1.g).mono s2.g) (s2.inn (s1.inn I)) ((R.on s1).on s2) _ fun G3 H3 s3 => by
    subst e
    obtain ⟨a, vs, rfl, hq, rs⟩ := rd
    have I3 := s3.inn (s2.inn (s1.inn I))
    refine .inl ⟨a, vs, rfl, ex_l ((s2.g.trans s3.g).trans I3.ex) hq, fun p hp => ?_⟩
    have n := Step.new I3 (o := .lst (cutV vs lo hi)) hp
    exact q _ _ _ _ rfl (((s1.trans s2).trans s3).trans n) ⟨p, _, rfl, SqL.of upd_same, (((rs.mono s2.g).mono s3.g).mono n.g).cut⟩
theorem ev_slT (h : EVD c cs Δ te (.tup ds)) (h1 : EVO c cs Δ tl lo) (h2 : EVO c cs Δ th hi) : EVD c cs Δ (tSl (bSl c.K) te tl th) (.tup (cutD ds lo hi)) := fun σ G H s I R Q q =>
  h σ G H s I R _ fun d v G1 H1 e s1 rd => h1 σ G1 H1 (s.mono s1.g) (s1.inn I) (R.on s1) _ fun G2 H2 s2 => h2 σ G2 H2 ((s.mono s1.g).mono s2.g) (s2.inn (s1.inn I)) ((R.on s1).on s2) _ fun G3 H3 s3 => by
    subst e
    obtain ⟨a, vs, rfl, hq, rs⟩ := rd
    have I3 := s3.inn (s2.inn (s1.inn I))
    have r3 := (rs.mono s2.g).mono s3.g
    refine .inr (.inl ⟨a, vs, rfl, ex_t ((s2.g.trans s3.g).trans I3.ex) hq, fun ⟨w1, w2⟩ => ?_, fun _ p hp => ?_⟩)
    · have e : cutV vs lo hi = vs := by
        unfold cutV
        rw [w1, w2, List.drop_zero, Nat.sub_zero, List.take_length]
      exact q _ _ G3 H3 rfl ((s1.trans s2).trans s3) ⟨a, vs, rfl, (s2.g.trans s3.g) _ _ hq, by have := r3.cut (lo := lo) (hi := hi); rw [e] at this; exact this⟩
    · have n := Step.new I3 (o := .tup (cutV vs lo hi)) hp
      exact q _ _ _ _ rfl (((s1.trans s2).trans s3).trans n) ⟨p, _, rfl, upd_same, (r3.mono n.g).cut⟩
theorem ev_slS {z : Str} (h : EVD c cs Δ te (.str z)) (hz : z.length ≤ sizeLine) (h1 : EVO c cs Δ tl lo) (h2 : EVO c cs Δ th hi) : EVD c cs Δ (tSl (bSl c.K) te tl th) (.str (cutS z lo hi)) := fun σ G H s I R Q q =>
  h σ G H s I R _ fun d v G1 H1 e s1 rd => h1 σ G1 H1 (s.mono s1.g) (s1.inn I) (R.on s1) _ fun G2 H2 s2 => h2 σ G2 H2 ((s.mono s1.g).mono s2.g) (s2.inn (s1.inn I)) ((R.on s1).on s2) _ fun G3 H3 s3 => by
    subst e
    exact .inr (.inr ⟨z, rd, hz, q (.str (cutS z lo hi)) _ G3 H3 rfl ((s1.trans s2).trans s3) rfl⟩)
/-! a < b < c -/
theorem ev_chain {r r' : R2} (ha : EVD c cs Δ ta a) (hb : EVD c cs Δ tb b) (h1 : ROD c cs r a b (.bl p)) (hc : p = true → EVD c cs Δ tc d) (h2 : p = true → ROD c cs r' b d (.bl q)) : EVD c cs Δ (tChain r r' ta tb tc) (.bl (p && q)) := fun σ G H s I R Q k =>
  ha σ G H s I R _ fun _ x G1 H1 e1 s1 ra => hb σ G1 H1 (s.mono s1.g) (s1.inn I) (R.on s1) _ fun _ y G2 H2 e2 s2 rb => by
    subst e1 e2
    have I2 := s2.inn (s1.inn I)
    refine h1 G2 H2 x y I2 ((R.on s1).on s2) (ra.mono s2.g) rb _ fun _ z G3 H3 e3 s3 rz => ?_
    subst e3
    refine ⟨p, rz, ?_⟩
    have s123 := (s1.trans s2).trans s3
    cases p with
    | true =>
      rw [if_pos rfl]
      refine hc rfl σ G3 H3 (s.mono s123.g) (s3.inn I2) (R.on s123) _ fun _ w G4 H4 e4 s4 rw_ => ?_
      subst e4
      exact h2 rfl G4 H4 y w (s4.inn (s3.inn I2)) ((R.on s123).on s4) ((rb.mono s3.g).mono s4.g) rw_ Q fun dd v G5 H5 e5 s5 r5 => k dd v G5 H5 e5 ((s123.trans s4).trans s5) r5
    | false =>
      rw [if_neg (by decide)]
      exact k _ _ G3 H3 rfl s123 rfl
/-! join -/
theorem Reps.strs_of {K : PySem.W.Frag} {G : Hp} : ∀ {ys : List Str} {vs : List V}, Reps K G (ys.map Dat.str) vs → vs = ys.map V.str
  | [], vs, h => h
  | n :: ns, vs, h => by
    obtain ⟨v, r, rfl, h2, h3⟩ := h
    rw [Reps.strs_of h3, show v = V.str n from h2]
    rfl
theorem ev_join {x : Str} {ys : List Str} (h1 : EVD c cs Δ to (.str x)) (h2 : EVD c cs Δ te (.lst (ys.map Dat.str))) (hl : (ys.map (·.length)).sum + ys.length * x.length ≤ 16777216) : EVD c cs Δ (tM1 (rJoin c.K) to te) (.str (Txt.join x ys)) := fun σ G H s I R Q q =>
  h1 σ G H s I R _ fun d v G1 H1 e s1 rd => by
    subst e
    refine ⟨⟨x, rd⟩, h2 σ G1 H1 (s.mono s1.g) (s1.inn I) (R.on s1) _ fun d2 u G2 H2 e2 s2 rd2 => ?_⟩
    subst e2
    obtain ⟨a, vs, rfl, hq, rs⟩ := rd2
    rw [rs.strs_of] at hq
    exact ⟨x, a, ys, rd, rfl, .inl (ex_l s2.i hq), hl, q (.str (Txt.join x ys)) _ G2 H2 rfl (s1.trans s2) rfl⟩
/-! a text's signs one by one -/
theorem f_str {z : Str} (h : EVD c cs Δ te (.str z)) : EVF c cs Δ (iStr te) fun x => x = z.cps.toList.map fun k => Dat.str (sgn k) := fun σ G H s I R Q k =>
  h σ G H s I R _ fun d v G2 H2 e s2 rd => by
    subst e
    refine ⟨z, rd, k _ _ G2 H2 rfl s2 fun cs G' H' e I' i => ⟨fun hl => ?_, fun d hd => ?_⟩⟩
    · rw [List.length_map, Array.length_toList] at hl
      exact Nat.le_of_eq hl.symm
    · rw [List.getElem?_map, Array.getElem?_toList] at hd
      cases e0 : z.cps[i]? with
      | none => rw [e0] at hd; cases hd
      | some k0 =>
        rw [e0] at hd
        cases hd
        refine ⟨(Array.getElem?_eq_some_iff.mp e0).1, fun x H'' ⟨e1, k1, e2, e3⟩ => ?_⟩
        subst e1 e3
        rw [e0] at e2
        cases e2
        exact ⟨G', Step.refl I', rfl⟩
/-! for i, x in enumerate(xs) -/
theorem f_enum {ta : TA} (h : EVL c cs Δ ta [.lst ds]) : EVF c cs Δ (iEnum c.K ta) fun x => x = (List.range ds.length).map fun (i : Nat) => Dat.tup [.int (i : Int), ds.getD i .non] := fun σ G H s I R Q k =>
  h σ G H s I R _ fun dl vl G2 H2 e s2 rd => by
    subst e
    obtain ⟨v, rfl, a, xs, rfl, hq, rs⟩ := rd.only
    refine ⟨a, xs, rfl, ex_l s2.i hq, k _ _ G2 H2 rfl s2 fun cs G' H' e I' i => ⟨fun hl => ?_, fun d hd => ?_⟩⟩
    · rw [List.length_map, List.length_range] at hl
      exact ⟨xs, ex_l (e.trans I'.ex) hq, by rw [rs.len]; exact Nat.le_of_eq hl.symm⟩
    · rw [List.getElem?_map] at hd
      have hi : i < ds.length := by
        rcases Nat.lt_or_ge i ds.length with q | q
        · exact q
        · rw [List.getElem?_eq_none (by simpa using q)] at hd; cases hd
      rw [List.getElem?_range hi] at hd
      cases hd
      obtain ⟨v, hv, rv⟩ := rs.get (List.getElem?_eq_getElem hi)
      have hx := ex_l (K := c.K) (e.trans I'.ex) hq
      refine ⟨⟨xs, v, hx, hv⟩, fun x H'' ⟨T, y, e1, hT, e2, hy⟩ => ?_⟩
      have e3 := hy xs hx
      rw [hv] at e3
      cases e3
      subst e1 e2
      have n := Step.new I' (o := .tup [.int (i : Nat), v]) hT
      refine ⟨_, n, T, _, rfl, upd_same, _, _, rfl, rfl, v, [], rfl, ?_, rfl⟩
      rw [List.getD_eq_getElem?_getD, List.getElem?_eq_getElem hi]
      exact (rv.mono e).mono n.g
/-! list(xs) -/
theorem en_list (h : EVD c cs Δ te (.lst ds)) : EVN c cs Δ (tCB (bLst c.K) (tCons te tNil)) fun es => es = ds := fun σ G H s I R Q k =>
  h σ G H s I R _ fun d v G1 H1 e s1 rd => by
    subst e
    obtain ⟨a, vs, rfl, hq, rs⟩ := rd
    refine ⟨a, vs, rfl, .inl (ex_l s1.i hq), fun p hp => ?_⟩
    have I1 := s1.inn I
    have no : ¬ c.W.own p := fun z => c.W.has _ I1.ok p z hp
    have hpH : H p = none := by
      cases q : H p with
      | none => rfl
      | some o => rw [s1.h p o no q] at hp; cases hp
    exact k _ p _ G1 _ rfl hpH (I1.ex.none_of hp) no (s1.trans (Step.aside I1 hp)) upd_same rs
theorem en_listT (h : EVD c cs Δ te (.tup ds)) : EVN c cs Δ (tCB (bLst c.K) (tCons te tNil)) fun es => es = ds := fun σ G H s I R Q k =>
  h σ G H s I R _ fun d v G1 H1 e s1 rd => by
    subst e
    obtain ⟨a, vs, rfl, hq, rs⟩ := rd
    refine ⟨a, vs, rfl, .inr (ex_t s1.i hq), fun p hp => ?_⟩
    have I1 := s1.inn I
    have no : ¬ c.W.own p := fun z => c.W.has _ I1.ok p z hp
    have hpH : H p = none := by
      cases q : H p with
      | none => rfl
      | some o => rw [s1.h p o no q] at hp; cases hp
    exact k _ p _ G1 _ rfl hpH (I1.ex.none_of hp) no (s1.trans (Step.aside I1 hp)) upd_same rs
end
end DV

set_option autoImplicit false
set_option linter.all false
set_option maxRecDepth 100000
set_option maxHeartbeats 2000000
/-! Several cells; cells read as data for a while; pop; dicts by texts and by pairs. -/
namespace DV
open PySem PySem.Spec PyProof.Rows L2
section
variable {c : Ct} {cs : Cells} {Δ Δ' : Sts} {te ta tb tc to : TE} {tr : TA} {tt : TT} {t u : TS} {po : Po} {a b d : Dat} {ds : List Dat} {P : Dat → Prop} {Pb : Bool → Prop} {i j : Nat} {l m : Addr} {k k' : Cell}
/-! the cells' sequence -/
theorem STS.perm {cs' : Cells} (h : STS c cs' Δ t po) (p : cs.Perm cs') : STS c cs Δ t po :=
  h.cells (fun nd => ((p.map (fun x : Addr × Cell => x.1)).nodup_iff).mp nd) fun x hx => p.mem_iff.mpr hx
theorem s_swap {x y : Addr × Cell} (h : STS c (y :: x :: cs) Δ t po) : STS c (x :: y :: cs) Δ t po := h.perm (.swap y x cs)
theorem EVP.cells {cs' : Cells} (h : EVP c cs' Δ te P) (nd : (cs.map (·.1)).Nodup → (cs'.map (·.1)).Nodup) (l : ∀ x ∈ cs', x ∈ cs) : EVP c cs Δ te P := fun σ G H s I R Q q => h σ G H s (I.sub (nd I.nd) l) R Q q
theorem EVB.cells {cs' : Cells} (h : EVB c cs' Δ tt Pb) (nd : (cs.map (·.1)).Nodup → (cs'.map (·.1)).Nodup) (l : ∀ x ∈ cs', x ∈ cs) : EVB c cs Δ tt Pb := fun σ G H s I R Q q => h σ G H s (I.sub (nd I.nd) l) R Q q
theorem EVP.swap {x y : Addr × Cell} (h : EVP c (y :: x :: cs) Δ te P) : EVP c (x :: y :: cs) Δ te P :=
  h.cells (fun nd => (((List.Perm.swap y x cs).map (fun x : Addr × Cell => x.1)).nodup_iff).mp nd) fun z hz => (List.Perm.swap y x cs).mem_iff.mpr hz
theorem EVB.swap {x y : Addr × Cell} (h : EVB c (y :: x :: cs) Δ tt Pb) : EVB c (x :: y :: cs) Δ tt Pb :=
  h.cells (fun nd => (((List.Perm.swap y x cs).map (fun x : Addr × Cell => x.1)).nodup_iff).mp nd) fun z hz => (List.Perm.swap y x cs).mem_iff.mpr hz
theorem EVP.more {x : Addr × Cell} (h : EVP c cs Δ te P) : EVP c (x :: cs) Δ te P := h.cells (fun nd => (List.nodup_cons.mp nd).2) fun z hz => List.mem_cons_of_mem _ hz
theorem EVB.more {x : Addr × Cell} (h : EVB c cs Δ tt Pb) : EVB c (x :: cs) Δ tt Pb := h.cells (fun nd => (List.nodup_cons.mp nd).2) fun z hz => List.mem_cons_of_mem _ hz
theorem STS.less {x : Addr × Cell} (h : STS c cs Δ t po) : STS c (x :: cs) Δ t po := h.cells (fun nd => (List.nodup_cons.mp nd).2) fun z hz => List.mem_cons_of_mem _ hz
/-! the first cell read as data while an expression runs whose answer hangs on no object -/
def loose : Dat → Bool
  | .non => true
  | .bl _ => true
  | .int _ => true
  | .str _ => true
  | .obj _ => true
  | _ => false
theorem loose_rep {K : PySem.W.Frag} {G G' : Hp} {v : V} (h : loose d = true) (r : Rep K G d v) : Rep K G' d v := by
  cases d with
  | non => exact r
  | bl b => exact r
  | int b => exact r
  | str b => exact r
  | obj u => exact r
  | tup b => cases h
  | lst b => cases h
  | ins C fs b => cases h
  | dct ks b => cases h
  | key k => cases h
  | dcT ks b => cases h
theorem Inn.frz {G H : Hp} (I : Inn c.K c.W ((l, k) :: cs) G H) : ∃ o, H l = some o ∧ Inn c.K c.W cs (upd G l o) H ∧ Ex G (upd G l o) ∧ Rep c.K (upd G l o) k.dat (.ref l) := by
  obtain ⟨gl, no, o, ho, r⟩ := I.cell _ List.mem_cons_self
  have e : Ex G (upd G l o) := Ex.new gl
  have nd := List.nodup_cons.mp I.nd
  refine ⟨o, ho, ⟨fun a u q => ?_, I.ok, fun a n => ?_, nd.2, fun x hx => ?_⟩, e, (r.mono e).good upd_same⟩
  · by_cases z : a = l
    · rw [z, upd_same] at q; cases q; rw [z]; exact ho
    · rw [upd_ne z] at q; exact I.ex a u q
  · rw [upd_ne (fun z => no (by rw [← z]; exact n))]; exact I.no a n
  · obtain ⟨g1, n1, o1, h1, r1⟩ := I.cell x (List.mem_cons_of_mem _ hx)
    refine ⟨?_, n1, o1, h1, r1.mono e⟩
    rw [upd_ne (fun z => nd.1 (List.mem_map.mpr ⟨x, hx, z⟩))]; exact g1
theorem Step.thaw {W : Wld} {G G' H G2 H2 : Hp} (e : Ex G G') (s : Step W G' H G2 H2) : Step W G H G H2 := ⟨Ex.refl _, fun a o q => s.i a o (s.g a o (e a o q)), s.ok, s.h, fun _ _ _ g => g⟩
theorem ev_frz (hx : ∀ x, ¬ c.X x) (hi : Δ[i]? = some (some (.obj (.ref l)))) (h : EVP c cs (Δ.set i (some k.dat)) te P) (hl : ∀ d, P d → loose d = true) : EVP c ((l, k) :: cs) Δ te P := fun σ G H s I R Q q => by
  obtain ⟨o, ho, I', e, r⟩ := I.frz
  obtain ⟨v, h1, h2⟩ := s.at_ i _ hi
  rw [show v = .ref l from h2] at h1
  exact h σ _ H ((s.mono e).re h1 r) I' (fun x _ _ _ _ z => (hx x z).elim) Q fun d v G2 H2 pd st rd => q d v G H2 pd (st.thaw e) (loose_rep (hl d pd) rd)
theorem et_frz (hx : ∀ x, ¬ c.X x) (hi : Δ[i]? = some (some (.obj (.ref l)))) (h : EVB c cs (Δ.set i (some k.dat)) tt Pb) : EVB c ((l, k) :: cs) Δ tt Pb := fun σ G H s I R Q q => by
  obtain ⟨o, ho, I', e, r⟩ := I.frz
  obtain ⟨v, h1, h2⟩ := s.at_ i _ hi
  rw [show v = .ref l from h2] at h1
  exact h σ _ H ((s.mono e).re h1 r) I' (fun x _ _ _ _ z => (hx x z).elim) Q fun b G2 H2 pb st => q b G H2 pb (st.thaw e)
/-- .. held within a tuple -/
theorem et_frzT {xs ys : List Dat} (hx : ∀ x, ¬ c.X x) (hi : Δ[i]? = some (some (.tup (xs ++ .obj (.ref l) :: ys)))) (h : EVB c cs (Δ.set i (some (.tup (xs ++ k.dat :: ys)))) tt Pb) : EVB c ((l, k) :: cs) Δ tt Pb := fun σ G H s I R Q q => by
  obtain ⟨o, ho, I', e, r⟩ := I.frz
  obtain ⟨v, h1, a, vs, rfl, hq, rs⟩ := s.at_ i _ hi
  have r2 : Reps c.K (upd G l o) (xs ++ k.dat :: ys) vs := by
    clear h1 hq h hi
    induction xs generalizing vs with
    | nil =>
      obtain ⟨v, w, rfl, q1, q2⟩ := rs
      rw [show v = .ref l from q1]
      exact ⟨_, _, rfl, r, q2.mono e⟩
    | cons x xs ih =>
      obtain ⟨v, w, rfl, q1, q2⟩ := rs
      exact ⟨_, _, rfl, q1.mono e, ih _ q2⟩
  exact h σ _ H ((s.mono e).re h1 ⟨a, vs, rfl, e _ _ hq, r2⟩) I' (fun x _ _ _ _ z => (hx x z).elim) Q fun b G2 H2 pb st => q b G H2 pb (st.thaw e)
/-! an element of a cell -/
theorem ev_cellIx {z : Int} (hj : Δ[i]? = some (some (.obj (.ref m)))) (hz : EVD c ((m, .lst ds) :: cs) Δ te (.int z)) (hi : L2.atI ds z = some d) : EVD c ((m, .lst ds) :: cs) Δ (tOp (rIx c.K) (tVar i) te) d := fun σ G H s I R Q q => by
  obtain ⟨v, h1, h2⟩ := s.at_ i _ hj
  refine ⟨v, h1, hz σ G H s I R _ fun d' w G1 H1 e s1 rd => ?_⟩
  subst e
  obtain ⟨xs, hx, rs⟩ := (s1.inn I).lst
  obtain ⟨w', e1, e2⟩ := rs.atI hi
  exact .inl ⟨m, xs, z, w', h2, rd, SqL.of hx, e1, q d w' G1 H1 rfl s1 e2⟩
theorem ev_cellLen (hj : Δ[i]? = some (some (.obj (.ref m)))) : EVD c ((m, .lst ds) :: cs) Δ (tCB (bLen c.K) (tCons (tVar i) tNil)) (.int ds.length) := fun σ G H s I R Q q => by
  obtain ⟨v, h1, h2⟩ := s.at_ i _ hj
  refine ⟨v, h1, ?_⟩
  obtain ⟨xs, hx, rs⟩ := I.lst
  rw [show v = .ref m from h2]
  exact ⟨_, xs.length, rfl, .inl ⟨xs, SqL.of hx, rfl⟩, q _ _ G H rfl (Step.refl I) (by rw [rs.len]; rfl)⟩
/-! x = xs.pop(), x = xs.pop(0) -/
theorem q_pop {x : Dat} (hi : Δ[i]? = some (some (.obj (.ref l)))) (k : STS c ((l, .lst ds) :: cs) (Δ.set j (some x)) u po) : STS c ((l, .lst (ds ++ [x])) :: cs) Δ (tSeq (tAsg (tBM0 c.K "list" rPop (tVar i)) (gName j)) u) po := fun F G0 H0 σ G H D cu s R e => by
  obtain ⟨v, h1, h2⟩ := s.at_ i _ hi
  obtain ⟨xs, hx, rs⟩ := cu.inn.lst
  refine ⟨v, h1, ?_⟩
  rw [show v = .ref l from h2]
  obtain ⟨y, hy, ry⟩ := rs.get (i := ds.length) (d := x) (by simp)
  have hl := rs.len
  rw [List.length_append, List.length_singleton] at hl
  refine ⟨.inl ⟨rfl, _, .inl (.inl hx)⟩, l, xs, y, rfl, rfl, hx, by rw [hl, Nat.add_sub_cancel]; exact hy, ?_⟩
  have rd : Reps c.K G ds xs.dropLast := by
    have q := rs.take ds.length
    rw [List.take_left' rfl] at q
    rw [List.dropLast_eq_take, hl, Nat.add_sub_cancel]
    exact q
  exact k F G0 H0 _ G _ D (cu.wr (k' := .lst ds) ⟨_, rfl, rd⟩) (s.set ry) R e
theorem q_pop0 {x : Dat} (hi : Δ[i]? = some (some (.obj (.ref l)))) (k : STS c ((l, .lst ds) :: cs) (Δ.set j (some x)) u po) : STS c ((l, .lst (x :: ds)) :: cs) Δ (tSeq (tAsg (tBM c.K "list" rPopAt (tVar i) (tCons (tC (.int 0)) tNil)) (gName j)) u) po := fun F G0 H0 σ G H D cu s R e => by
  obtain ⟨v, h1, h2⟩ := s.at_ i _ hi
  obtain ⟨xs, hx, rs⟩ := cu.inn.lst
  refine ⟨v, h1, ?_⟩
  rw [show v = .ref l from h2]
  obtain ⟨y, ys, rfl, ry, rys⟩ := rs
  refine ⟨.inl ⟨rfl, _, .inl (.inl hx)⟩, l, y :: ys, 0, 0, y, rfl, rfl, hx, by decide, by decide, ?_, rfl, ?_⟩
  · unfold seqIndex?
    simp
  · exact k F G0 H0 _ G _ D (cu.wr (k' := .lst ds) ⟨_, rfl, rys⟩) (s.set ry) R e
/-! keys: tuples of ints and texts -/
def keyD : Key → Dat
  | .inl i => .int i
  | .inr x => .str x
theorem Reps.keys_of {K : PySem.W.Frag} {G : Hp} : ∀ {ks : List Key} {vs : List V}, Reps K G (ks.map keyD) vs → vs = ks.map kV
  | [], vs, h => h
  | x :: ks, vs, h => by
    obtain ⟨v, r, rfl, h2, h3⟩ := h
    rw [Reps.keys_of h3]
    cases x with
    | inl i => rw [show v = V.int i from h2]; rfl
    | inr z => rw [show v = V.str z from h2]; rfl
theorem Reps.keys {K : PySem.W.Frag} {G : Hp} : ∀ ks : List Key, Reps K G (ks.map keyD) (ks.map kV)
  | [] => rfl
  | .inl i :: ks => ⟨_, _, rfl, rfl, Reps.keys ks⟩
  | .inr z :: ks => ⟨_, _, rfl, rfl, Reps.keys ks⟩
theorem ev_key {ks : List Key} (h : EVL c cs Δ tr (ks.map keyD)) (hl : ks.length ≤ 100000) : EVD c cs Δ (tTup tr) (.key ks) := fun σ G H s I R Q k =>
  h σ G H s I R _ fun dl vs G1 H1 e s1 rs => by
    subst e
    have ev := rs.keys_of
    subst ev
    refine ⟨Nat.le_trans (by rw [List.length_map]; exact hl) (by decide), fun p hp => ?_⟩
    have n := Step.new (s1.inn I) (o := .tup (ks.map kV)) hp
    exact k (.key ks) _ _ _ rfl (s1.trans n) ⟨p, rfl, upd_same⟩
theorem rep_key {K : PySem.W.Frag} {G : Hp} {ks : List Key} {v : V} (h : Rep K G (.key ks) v) : Rep K G (.tup (ks.map keyD)) v := by
  obtain ⟨a, rfl, h⟩ := h
  exact ⟨a, _, rfl, h, Reps.keys ks⟩
theorem EVD.key {ks : List Key} (h : EVD c cs Δ te (.key ks)) : EVD c cs Δ te (.tup (ks.map keyD)) := fun σ G H s I R Q k => h σ G H s I R Q fun d v G1 H1 e s1 rd => k _ v G1 H1 rfl s1 (rep_key (by rw [e] at rd; exact rd))
theorem Sig.key {K : PySem.W.Frag} {G : Hp} {σ : L2.St} {ks : List Key} (s : Sig K G σ Δ) (h : Δ[i]? = some (some (.key ks))) : Sig K G σ (Δ.set i (some (.tup (ks.map keyD)))) := by
  obtain ⟨v, h1, h2⟩ := s.at_ i _ h
  exact s.re h1 (rep_key h2)
/-! dicts -/
theorem valV_zip {κ : Type} [DecidableEq κ] : ∀ {ks : List κ} {xs : List V} {i : Nat} {k : κ} {v : V}, ks.Nodup → ks[i]? = some k → xs[i]? = some v → valV (ks.zip xs) k = some v
  | [], xs, i, k, v, _, h, _ => by simp at h
  | x :: ks, [], i, k, v, _, _, h => by simp at h
  | x :: ks, y :: xs, 0, k, v, _, h1, h2 => by
    have e1 : x = k := by simpa using h1
    have e2 : y = v := by simpa using h2
    rw [List.zip_cons_cons, valV_pos e1, e2]
  | x :: ks, y :: xs, i + 1, k, v, nd, h1, h2 => by
    obtain ⟨n1, n2⟩ := List.nodup_cons.mp nd
    have hk : ks[i]? = some k := by simpa using h1
    have ne : ¬ (x, y).1 = k := fun e => n1 (by rw [show x = k from e]; exact List.mem_of_getElem? hk)
    rw [List.zip_cons_cons, valV_neg ne]
    exact valV_zip n2 hk (by simpa using h2)
theorem valV_zipN {κ : Type} [DecidableEq κ] : ∀ {ks : List κ} {xs : List V} {k : κ}, k ∉ ks → valV (ks.zip xs) k = none
  | [], xs, k, _ => rfl
  | x :: ks, [], k, _ => rfl
  | x :: ks, y :: xs, k, h => by
    rw [List.mem_cons, not_or] at h
    rw [List.zip_cons_cons, valV_neg (fun e : x = k => h.1 e.symm)]
    exact valV_zipN h.2
def hasK {κ : Type} [DecidableEq κ] (ks : List κ) (k : κ) : Bool := ks.any fun x => decide (x = k)
theorem hasK_iff {κ : Type} [DecidableEq κ] {ks : List κ} {k : κ} : hasK ks k = true ↔ k ∈ ks := by
  unfold hasK
  rw [List.any_eq_true]
  exact ⟨fun ⟨x, h, e⟩ => of_decide_eq_true e ▸ h, fun h => ⟨k, h, decide_eq_true rfl⟩⟩
theorem valV_zipS {κ : Type} [DecidableEq κ] {ks : List κ} {xs : List V} {k : κ} (hl : ks.length = xs.length) : (valV (ks.zip xs) k).isSome = hasK ks k := by
  rw [← valV_any, Bool.eq_iff_iff, List.any_eq_true, hasK_iff]
  constructor
  · rintro ⟨p, hp, e⟩
    rw [decide_eq_true_eq] at e
    exact e ▸ (List.of_mem_zip hp).1
  · intro h
    obtain ⟨n, hn, e⟩ := List.getElem_of_mem h
    refine ⟨(ks[n], xs[n]'(by omega)), ?_, by simpa using e⟩
    have := List.getElem_mem (l := ks.zip xs) (n := n) (by rw [List.length_zip]; omega)
    rwa [List.getElem_zip] at this
theorem putK_new {κ : Type} [DecidableEq κ] {ks : List κ} {xs : List V} {k : κ} {v : V} (hl : ks.length = xs.length) (h : k ∉ ks) : putK (ks.zip xs) k v = (ks ++ [k]).zip (xs ++ [v]) := by
  unfold putK
  rw [valV_any, valV_zipN h, if_neg (by decide), List.zip_append hl]
  rfl
/-- d["k"], a dict that stands for good -/
theorem ev_dget {ks : List Key} {k : Key} (hd : EVD c cs Δ ta (.dct ks ds)) (hk : EVD c cs Δ tb (keyD k)) (nd : ks.Nodup) (h1 : ks[i]? = some k) (h2 : ds[i]? = some d) : EVD c cs Δ (tDGet ta tb) d := fun σ G H s I R Q q =>
  hd σ G H s I R _ fun _ x G1 H1 e1 s1 r1 => hk σ G1 H1 (s.mono s1.g) (s1.inn I) (R.on s1) _ fun _ y G2 H2 e2 s2 r2 => by
    subst e1 e2
    obtain ⟨a, xs, rfl, hg, hl, rs⟩ := r1.mono s2.g
    obtain ⟨v, hv, rv⟩ := rs.get h2
    have hy : y = kV k := by
      cases k with
      | inl i => exact r2
      | inr z => exact r2
    exact ⟨a, v, rfl, .inl ⟨_, k, .inl (s2.i _ _ hg), hy, (valV_zip nd h1 hv).symm⟩, q d v G2 H2 rfl (s1.trans s2) rv⟩
/-- d[a, b] -/
theorem ev_dgetT {ks : List (List Key)} {k : List Key} (hd : EVD c cs Δ ta (.dcT ks ds)) (hk : EVD c cs Δ tb (.key k)) (nd : ks.Nodup) (h1 : ks[i]? = some k) (h2 : ds[i]? = some d) : EVD c cs Δ (tDGet ta tb) d := fun σ G H s I R Q q =>
  hd σ G H s I R _ fun _ x G1 H1 e1 s1 r1 => hk σ G1 H1 (s.mono s1.g) (s1.inn I) (R.on s1) _ fun _ y G2 H2 e2 s2 r2 => by
    subst e1 e2
    obtain ⟨a, xs, rfl, hg, hl, rs⟩ := r1.mono s2.g
    obtain ⟨v, hv, rv⟩ := rs.get h2
    obtain ⟨b, rfl, hb⟩ := r2
    exact ⟨a, v, rfl, .inr ⟨_, k, b, .inl (s2.i _ _ hg), rfl, s2.i _ _ hb, (valV_zip nd h1 hv).symm⟩, q d v G2 H2 rfl (s1.trans s2) rv⟩
theorem ev_dnotinT {ks : List (List Key)} {k : List Key} (hk : EVD c cs Δ tb (.key k)) (hd : EVD c cs Δ ta (.dcT ks ds)) : EVD c cs Δ (tDNotIn tb ta) (.bl (!hasK ks k)) := fun σ G H s I R Q q =>
  hk σ G H s I R _ fun _ y G1 H1 e1 s1 r1 => hd σ G1 H1 (s.mono s1.g) (s1.inn I) (R.on s1) _ fun _ x G2 H2 e2 s2 r2 => by
    subst e1 e2
    obtain ⟨b, rfl, hb⟩ := r1.mono s2.g
    obtain ⟨a, xs, rfl, hg, hl, rs⟩ := r2
    exact ⟨a, _, rfl, .inr ⟨_, k, b, .inl (s2.i _ _ hg), rfl, s2.i _ _ hb, rfl⟩, by rw [valV_zipS hl]; exact q _ _ G2 H2 rfl (s1.trans s2) rfl⟩
/-- d[a, b] = e, a new key of a dict that is a cell -/
theorem q_putT {ks : List (List Key)} {k : List Key} (hi : Δ[i]? = some (some (.obj (.ref l)))) (he : EVD c ((l, .dcT ks ds) :: cs) Δ te d) (hk : EVD c ((l, .dcT ks ds) :: cs) Δ tb (.key k)) (hn : k ∉ ks) (hl : ks.length < 100000)
    (nx : STS c ((l, .dcT (ks ++ [k]) (ds ++ [d])) :: cs) Δ u po) : STS c ((l, .dcT ks ds) :: cs) Δ (tSeq (tAsg te (gSub (tVar i) tb rSetD)) u) po := fun F G0 H0 σ G H D cu s R e =>
  he σ G H s cu.inn (R.on cu.st) _ fun d1 v G1 H1 e1 s1 r1 => by
    subst e1
    obtain ⟨x, h1, h2⟩ := s.at_ i _ hi
    refine ⟨x, h1, ?_⟩
    have cu1 := cu.on s1
    refine hk σ G1 H1 (s.mono s1.g) cu1.inn (R.on cu1.st) _ fun _ y G2 H2 e2 s2 r2 => ?_
    subst e2
    obtain ⟨b, rfl, hb⟩ := r2
    have cu2 := cu1.on s2
    obtain ⟨gl, no, o, ho, xs, eo, hlen, rs⟩ := cu2.inn.cell _ List.mem_cons_self
    refine ⟨l, _, h2, .inr ⟨ks.zip xs, k, b, by rw [ho, eo], rfl, s2.i _ _ hb, ?_, rfl⟩, ?_⟩
    · rw [List.length_zip, ← hlen, Nat.min_self]
      exact Nat.lt_of_lt_of_le hl (by decide)
    · exact nx F G0 H0 σ G2 _ D (cu2.wr (k' := .dcT (ks ++ [k]) (ds ++ [d1])) ⟨xs ++ [v], congrArg HO.dT (putK_new hlen hn), by simp [hlen], rs.app (Reps.one (r1.mono s2.g))⟩) ((s.mono s1.g).mono s2.g) R e
/-- {} that grows by keys of pairs -/
theorem q_newT (k : ∀ l, STS c ((l, .dcT [] []) :: cs) (Δ.set i (some (.obj (.ref l)))) u po) : STS c cs Δ (tSeq (tAsg tDNewT (gName i)) u) po := fun F G0 H0 σ G H D cu s R e l hl => by
  have no : ¬ c.W.own l := fun z => c.W.has _ cu.inn.ok l z hl
  have h0 : H0 l = none := by
    cases q : H0 l with
    | none => rfl
    | some o => rw [cu.st.h l o no q] at hl; cases hl
  have s2 := Step.aside cu.inn (o := .dT []) hl
  have cu2 := cu.on s2
  refine k l F G0 H0 _ G _ D ⟨cu2.fl, cu2.st, ⟨cu2.inn.ex, cu2.inn.ok, cu2.inn.no, ?_, ?_⟩, ?_⟩ ((s.mono s2.g).set rfl) R e
  · rw [List.map_cons]
    refine List.nodup_cons.mpr ⟨fun hm => ?_, cu2.inn.nd⟩
    obtain ⟨x, hx, e1⟩ := List.mem_map.mp hm
    obtain ⟨_, _, o, ho, _⟩ := cu.inn.cell x hx
    rw [e1] at ho
    rw [ho] at hl; cases hl
  · intro x hm
    rcases List.mem_cons.mp hm with rfl | hm
    · exact ⟨cu.inn.ex.none_of hl, no, _, upd_same, [], rfl, rfl, rfl⟩
    · exact cu2.inn.cell x hm
  · intro x hm
    rcases List.mem_cons.mp hm with rfl | hm
    · exact h0
    · exact cu.fr x hm
end
end DV

set_option autoImplicit false
set_option linter.all false
set_option maxRecDepth 100000
set_option maxHeartbeats 2000000
/-! zip of two texts. -/
namespace DV
open PySem PySem.Spec PyProof.Rows L2
section
variable {P : Program} {w : World} {K : PySem.W.Frag}
/-- the signs of two texts in new pairs -/
def ItzS (x y : Str) : It :=
  ⟨fun i _ => i < x.cps.size ∧ i < y.cps.size, fun i H v H' => ∃ T a b, v = .ref T ∧ H T = none ∧ H' = upd H T (.tup [.str ⟨#[a]⟩, .str ⟨#[b]⟩]) ∧ x.cps[i]? = some a ∧ y.cps[i]? = some b, fun i _ => i ≤ x.cps.size ∧ i ≤ y.cps.size ∧ (i = x.cps.size ∨ i = y.cps.size)⟩
theorem sep_five {n : Nat} : ZipSep2 (n + 4) (n + 2) (n + 3) n (n + 1) [n] [n + 1] := by
  constructor <;> simp <;> omega
theorem turn_zipS {elts : List Expr} {kk : Nat} {tpos : Pos} {x y : Str} {tx ty : Tok} {z TI TO i1 i2 : Addr} (D : ZipSep2 z TI TO i1 i2 [i1] [i2]) :
    Turn P w K (.Tuple elts kk tpos) (ItzS x y) [z, TI, TO, i1, i2] z (fun i h => IsZip h z TI TO .none ∧ IsPair h TI (.ref i1) (.ref i2) ∧ (∃ a b, IsPair h TO a b) ∧ h.IsStrIter i1 "str_ascii_iterator" x tx i ∧ h.IsStrIter i2 "str_ascii_iterator" y ty i) where
  mem := List.mem_cons_self
  obj := fun i h ⟨a1, a2, ⟨u, v, a3⟩, ⟨o1, a4, _, d1⟩, ⟨o2, a5, _, d2⟩⟩ c hc => by
    have hc : c = z ∨ c = TI ∨ c = TO ∨ c = i1 ∨ c = i2 := by simpa using hc
    rcases hc with q | q | q | q | q
    · subst q; exact ⟨_, a1, fun v q => nomatch q⟩
    · subst q; exact ⟨_, a2, fun v q => nomatch q⟩
    · subst q; exact ⟨_, a3, fun v q => nomatch q⟩
    · subst q; exact ⟨o1, a4, fun v q => by rw [d1] at q; cases q⟩
    · subst q; exact ⟨o2, a5, fun v q => by rw [d2] at q; cases q⟩
  keep := fun i h h' ⟨a1, a2, ⟨u, v, a3⟩, ⟨o1, a4, b1⟩, ⟨o2, a5, b2⟩⟩ k => ⟨k z (by simp) _ a1, k TI (by simp) _ a2, ⟨u, v, k TO (by simp) _ a3⟩, ⟨o1, k i1 (by simp) _ a4, b1⟩, ⟨o2, k i2 (by simp) _ a5, b2⟩⟩
  item := by
    intro X hP hw hK hc i pins s σ H E I hf ⟨a1, a2, ⟨u, v, a3⟩, a4, a5⟩ ⟨g1, g2⟩
    subst hP hw hK
    have hzl : z < s.heap.objs.size := Heap.lt_size a1
    have hd := I.ok.hd hc
    refine wpAny_pyNext_zipD2_item D (Draws.strAscii (A := X.A.in1) hd i1 x tx) (Draws.strAscii (A := X.A.in1) hd i2 y ty) a1 a2 a3 a4 a5 g1 g2 fun x1 x2 h' tk p1 p2 z' TO' h1' h2' hT hsz hk => ?_
    obtain ⟨ca, ta, e1, rfl⟩ := p1
    obtain ⟨cb, tb, e2, rfl⟩ := p2
    refine ⟨_, rfl, wpAny_letOwnedTupleGo_zip (s := { s with heap := h', toks := tk }) z' fun h2 z2 sb => ?_⟩
    have T2 : h2.get? s.heap.objs.size = some { cls := .type "tuple", data := .seq #[Value.str ⟨#[ca]⟩ ta, Value.str ⟨#[cb]⟩ tb] } := (sb.2 _ (Nat.ne_of_gt hzl)).trans hT
    have new : ObjOk X.prog X.w (upd H s.heap.objs.size (.tup [.str ⟨#[ca]⟩, .str ⟨#[cb]⟩])) h2 s.heap.objs.size (.tup [.str ⟨#[ca]⟩, .str ⟨#[cb]⟩]) :=
      ⟨by show 2 ≤ sizeLine; decide, [.str ⟨#[ca]⟩ ta, .str ⟨#[cb]⟩ tb], .cons ⟨ta, rfl⟩ (.cons ⟨tb, rfl⟩ .nil), ⟨_, T2, rfl, _, rfl⟩⟩
    have I1 : Inv X pins σ (upd H s.heap.objs.size (.tup [.str ⟨#[ca]⟩, .str ⟨#[cb]⟩])) { s with heap := h2, toks := tk } :=
      I.turnedNew (ch := [z, TI, TO, i1, i2]) (fun c o hb q => (sb.2 c (fun e => hb (by simp [e]))).trans (hk c o (fun e => hb (by simp [e])) (fun e => hb (by simp [e])) (fun e => hb (by simp [e])) (fun e => hb (by simp [e])) q)) hf (Nat.le_refl _) new
    have zi1 : i1 ≠ z := fun e => D.zf1 (by simp [e])
    have zi2 : i2 ≠ z := fun e => D.zf2 (by simp [e])
    refine ⟨.ref s.heap.objs.size, _, I1, rfl, ⟨_, ca, cb, rfl, I.hok.fresh (Nat.le_refl _), rfl, e1, e2⟩, ⟨z2, ?_, ⟨_, _, (sb.2 _ D.TOz).trans TO'⟩, ?_, ?_⟩, fun c hcm => ?_⟩
    · exact (sb.2 _ D.TIz).trans (hk _ _ D.TIz D.TITO D.TIi1 D.TIi2 a2)
    · obtain ⟨o, q, r⟩ := h1'
      exact ⟨o, (sb.2 _ zi1).trans q, r⟩
    · obtain ⟨o, q, r⟩ := h2'
      exact ⟨o, (sb.2 _ zi2).trans q, r⟩
    · have lt : c < s.heap.objs.size := by
        have hcm : c = z ∨ c = TI ∨ c = TO ∨ c = i1 ∨ c = i2 := by simpa using hcm
        rcases hcm with q | q | q | q | q
        · rw [q]; exact hzl
        · rw [q]; exact Heap.lt_size a2
        · rw [q]; exact Heap.lt_size a3
        · rw [q]; obtain ⟨_, e, _⟩ := a4; exact Heap.lt_size e
        · rw [q]; obtain ⟨_, e, _⟩ := a5; exact Heap.lt_size e
      rw [upd_ne (Nat.ne_of_lt lt)]
      exact (hf c hcm).1
  done := by
    intro X hP hw hK hc i pins s σ H E I hf ⟨a1, a2, ⟨u, v, a3⟩, a4, a5⟩ ⟨g1, g2, g3⟩
    subst hP hw hK
    have hd := I.ok.hd hc
    exact wpAny_pyNext_zipD2_end D (Draws.strAscii (A := X.A.in1) hd i1 x tx) (Draws.strAscii (A := X.A.in1) hd i2 y ty) a1 a2 a3 a4 a5 g1 g2 g3 fun h' tk hk =>
      ⟨rfl, I.turnedL (ch := [z, TI, TO, i1, i2]) (fun c o hb q => hk c o (fun e => hb (by simp [e])) (fun e => hb (by simp [e])) (fun e => hb (by simp [e])) (fun e => hb (by simp [e])) q) hf⟩
  self := fun A i s Q E st h => wpAny_pyIter_zip st.1 h
end
/-! zip(x, y) as a call -/
abbrev sIt (x : Str) (t : Tok) : Obj := { cls := .type "str_ascii_iterator", data := .fields #[.str x t, .int 0 0] }
abbrev zS2 (h : Heap) (x y : Str) (t u : Tok) : Heap := (h.push (sIt x t)).push (sIt y u)
abbrev zS4 (h : Heap) (x y : Str) (t u : Tok) : Heap := ((zS2 h x y t u).push { cls := .type "tuple", data := .seq #[.ref h.objs.size, .ref (h.push (sIt x t)).objs.size] }).push { cls := .type "tuple", data := .seq #[.none, .none] }
abbrev zS5 (h : Heap) (x y : Str) (t u : Tok) : Heap := (zS4 h x y t u).push { cls := .type "zip", data := .fields #[.none, .bool false, .bool false, .ref (zS2 h x y t u).objs.size, .ref ((zS2 h x y t u).push { cls := .type "tuple", data := .seq #[.ref h.objs.size, .ref (h.push (sIt x t)).objs.size] }).objs.size] }
theorem meets_zipS (x y : Str) (t u : Tok) (hx : x.cps.all (· < 128) = true) (hy : y.cps.all (· < 128) = true) :
    Meets (Builtin.«zip.__new__» ⟨[.type "zip", .str x t, .str y u], []⟩) (fun _ R s => R (.ok (.ret (.ref (zS4 s.heap x y t u).objs.size))) { s with heap := zS5 s.heap x y t u }) :=
  .of_wp fun prog w A R s h => by
    obtain ⟨hp, g, d, tk, os⟩ := s
    have hsub := sub_zip
    wp_walk using wpAny_pyIter_ascii hx, wpAny_pyIter_ascii hy
    exact ⟨_, rfl, h⟩
section
variable {prog : Program} {w : World} {A : Around} {E : Value → Shared → Prop} {s : Shared}
theorem call_zipS {x y : Str} {t u : Tok} {Q : Value → Shared → Prop} (hx : x.cps.all (· < 128) = true) (hy : y.cps.all (· < 128) = true)
    (h : ∀ h', IsZip h' (s.heap.objs.size + 4) (s.heap.objs.size + 2) (s.heap.objs.size + 3) .none → IsPair h' (s.heap.objs.size + 2) (.ref s.heap.objs.size) (.ref (s.heap.objs.size + 1)) → IsPair h' (s.heap.objs.size + 3) .none .none →
      h'.IsStrIter s.heap.objs.size "str_ascii_iterator" x t 0 → h'.IsStrIter (s.heap.objs.size + 1) "str_ascii_iterator" y u 0 → (∀ c o, s.heap.get? c = some o → h'.get? c = some o) → Q (.ref (s.heap.objs.size + 4)) { s with heap := h' }) :
    wpAny (model prog w) A (call (.type "zip") [.str x t, .str y u]) Q E s := by
  refine callType_new F.called_zip (by decide) (F.typeCall_zip_2 _ _) (F.newCall_zip_2 _ _) (fun ob => F.args_object_init_3 ob _ _) F.entry_zip_new (meets_zipS x y t u hx hy) ?_
  have z1 : (s.heap.push (sIt x t)).objs.size = s.heap.objs.size + 1 := Heap.size_push ..
  have z2 : (zS2 s.heap x y t u).objs.size = s.heap.objs.size + 2 := by rw [Heap.size_push, z1]
  have z3 : ((zS2 s.heap x y t u).push { cls := .type "tuple", data := .seq #[.ref s.heap.objs.size, .ref (s.heap.push (sIt x t)).objs.size] }).objs.size = s.heap.objs.size + 3 := by rw [Heap.size_push, z2]
  have z4 : (zS4 s.heap x y t u).objs.size = s.heap.objs.size + 4 := by rw [Heap.size_push, z3]
  have g5 : (zS5 s.heap x y t u).get? (zS4 s.heap x y t u).objs.size = some _ := Heap.get?_push_size _ rfl
  have g4 : (zS5 s.heap x y t u).get? ((zS2 s.heap x y t u).push { cls := .type "tuple", data := .seq #[.ref s.heap.objs.size, .ref (s.heap.push (sIt x t)).objs.size] }).objs.size = some _ := Heap.get?_push_of_some _ (Heap.get?_push_size _ rfl)
  have g3 : (zS5 s.heap x y t u).get? (zS2 s.heap x y t u).objs.size = some _ := Heap.get?_push_of_some _ (Heap.get?_push_of_some _ (Heap.get?_push_size _ rfl))
  have g2 : (zS5 s.heap x y t u).get? (s.heap.push (sIt x t)).objs.size = some (sIt y u) := Heap.get?_push_of_some _ (Heap.get?_push_of_some _ (Heap.get?_push_of_some _ (Heap.get?_push_size _ rfl)))
  have g1 : (zS5 s.heap x y t u).get? s.heap.objs.size = some (sIt x t) := Heap.get?_push_of_some _ (Heap.get?_push_of_some _ (Heap.get?_push_of_some _ (Heap.get?_push_of_some _ (Heap.get?_push_size _ rfl))))
  show _ ∧ _
  rw [z2, z3, z4] at g5
  rw [z1, z2] at g3
  rw [z3] at g4
  rw [z1] at g2
  rw [z4]
  exact ⟨⟨_, g5, rfl⟩, h _ g5 g3 g4 ⟨_, g1, rfl, rfl⟩ ⟨_, g2, rfl, rfl⟩ fun c o q =>
    Heap.get?_push_of_some _ (Heap.get?_push_of_some _ (Heap.get?_push_of_some _ (Heap.get?_push_of_some _ (Heap.get?_push_of_some _ q))))⟩
end
/-- zip of two lists, two tuples or two texts -/
def iZipX (K : PySem.W.Frag) (ta : TA) : TI := fun σ H R => RZ.iZipA K ta σ H R ∨ ta σ H fun vs H1 => ∃ x y, vs = [.str x, .str y] ∧ x.cps.all (· < 128) = true ∧ y.cps.all (· < 128) = true ∧ R (ItzS x y) H1
theorem pi_zipX {X : Cx} {e e2 : Expr} {ta : TA} {p pos tpos : Pos} {elts : List Expr} {kk : Nat} (hg : Gl X "zip") (hm : X.mg "zip" = none) (ha : PA X [e, e2] ta)
    (hs : starEach [e, e2] X.env = (false, eval e X.env) :: starEach [e2] X.env := by rfl) (hpl : (backTo pos (starEach [e2] X.env)).any (·.1) = false := by rfl) : PI X (.Tuple elts kk tpos) (.Call (.Name "zip" p) [e, e2] [] pos) (iZipX X.K ta) := by
  refine ⟨fun pins s σ H R I h => ?_⟩
  rcases h with h | h
  · exact (RZ.pi_zipA hg hm ha hs hpl).run pins s σ H R I h
  · refine Call_ (ld_blt I hg hm PyProof.Rows.boot_zip (PyProof.Rows.callWith_type1 (thn (ha.run pos pins s σ H _ I h) fun us s1 ⟨vs, H1, I1, r1, q1⟩ => ?_) hs hpl))
    obtain ⟨x, y, rfl, hx, hy, q⟩ := q1
    obtain ⟨u1, u2, rfl, ⟨t, rfl⟩, ⟨u, rfl⟩⟩ := vals2 r1
    refine call_zipS hx hy fun h' a1 a2 a3 a4 a5 hk => wpAny_pyIter_zip a1 ?_
    have I2 : Inv X pins σ H1 { s1 with heap := h' } := I1.kept (t' := s1.toks) hk
    refine ⟨s1.heap.objs.size + 4, [s1.heap.objs.size + 4, s1.heap.objs.size + 2, s1.heap.objs.size + 3, s1.heap.objs.size, s1.heap.objs.size + 1], _, _, H1, rfl, I2, turn_zipS sep_five, ⟨a1, a2, ⟨_, _, a3⟩, a4, a5⟩, fun c hc => ?_, q⟩
    have hle : s1.heap.objs.size ≤ c := by
      have hc : c = s1.heap.objs.size + 4 ∨ c = s1.heap.objs.size + 2 ∨ c = s1.heap.objs.size + 3 ∨ c = s1.heap.objs.size ∨ c = s1.heap.objs.size + 1 := by simpa using hc
      rcases hc with z | z | z | z | z <;> rw [z] <;> first | exact Nat.le_refl _ | exact Nat.le_add_right _ _
    exact I1.fpOk hle (I1.hok.fresh hle)
section
variable {c : Ct} {cs : Cells} {Δ : Sts} {ta : TA} {ds es : List Dat}
/-- zip of two texts: pairs of signs -/
theorem f_zipS {x y : Str} (hx : x.cps.all (· < 128) = true) (hy : y.cps.all (· < 128) = true) (h : EVL c cs Δ ta [.str x, .str y]) : EVF c cs Δ (iZipX c.K ta) fun l => l = (x.cps.toList.zip y.cps.toList).map fun p => Dat.tup [.str (sgn p.1), .str (sgn p.2)] := fun σ G H s I R Q k => by
  refine .inr (h σ G H s I R _ fun dl vl G2 H2 e s2 rd => ?_)
  subst e
  obtain ⟨u, v, rfl, r1, r2⟩ := rd.two
  refine ⟨x, y, by rw [show u = V.str x from r1, show v = V.str y from r2], hx, hy, k _ _ G2 H2 rfl s2 fun cs G' H' e I' i => ⟨fun hl => ?_, fun d hd => ?_⟩⟩
  · rw [List.length_map, List.length_zip, Array.length_toList, Array.length_toList] at hl
    show i ≤ x.cps.size ∧ i ≤ y.cps.size ∧ (i = x.cps.size ∨ i = y.cps.size)
    omega
  · rw [List.getElem?_map] at hd
    cases e0 : (x.cps.toList.zip y.cps.toList)[i]? with
    | none => rw [e0] at hd; cases hd
    | some p =>
      rw [e0] at hd
      cases hd
      obtain ⟨e1, e2⟩ := List.getElem?_zip_eq_some.mp e0
      rw [Array.getElem?_toList] at e1 e2
      refine ⟨⟨(Array.getElem?_eq_some_iff.mp e1).1, (Array.getElem?_eq_some_iff.mp e2).1⟩, fun z H'' ⟨T, a, b, q1, q2, q3, q4, q5⟩ => ?_⟩
      subst q1 q3
      rw [e1] at q4
      rw [e2] at q5
      cases q4
      cases q5
      have n := Step.new I' (o := .tup [.str (sgn p.1), .str (sgn p.2)]) q2
      exact ⟨_, n, T, _, rfl, upd_same, _, _, rfl, rfl, _, _, rfl, rfl, rfl⟩
end
end DV

set_option autoImplicit false
set_option linter.all false
set_option maxRecDepth 100000
set_option maxHeartbeats 2000000
/-! New lists given to several names at once; list(dict); a list within a tuple; dict displays; texts of tuples. -/
namespace DV
open PySem PySem.Spec PyProof.Rows L2
section
variable {c : Ct} {cs : Cells} {Δ Δ' : Sts} {te ta tb tc to : TE} {tr : TA} {tt : TT} {t u : TS} {po : Po} {a b d : Dat} {ds es : List Dat} {P : Dat → Prop} {PL PM : List Dat → Prop} {i j k0 : Nat} {l m : Addr} {F G0 H0 G H : Hp}
theorem EVN.more {x : Addr × Cell} (h : EVN c cs Δ te PL) : EVN c (x :: cs) Δ te PL := fun σ G H s I R Q q => h σ G H s (I.sub (List.nodup_cons.mp I.nd).2 fun z hz => List.mem_cons_of_mem _ hz) R Q q
theorem EVN.moreN {x : Addr × Cell} (h : EVN c cs Δ te PL) : EVN c (x :: cs) Δ te PL := h.more
/-- a new list is a cell -/
theorem Cur.new {G1 H1 : Hp} {xs : List V} (cu : Cur c cs F G0 H0 G H) (hl : H l = none) (gl : G1 l = none) (no : ¬ c.W.own l) (st : Step c.W G H G1 H1) (hx : H1 l = some (.lst xs)) (rs : Reps c.K G1 ds xs) : Cur c ((l, .lst ds) :: cs) F G0 H0 G1 H1 := by
  have cu2 := cu.on st
  have h0 : H0 l = none := by
    cases q : H0 l with
    | none => rfl
    | some o => rw [cu.st.h l o no q] at hl; cases hl
  refine ⟨cu2.fl, cu2.st, ⟨cu2.inn.ex, cu2.inn.ok, cu2.inn.no, ?_, fun x hm => ?_⟩, fun x hm => ?_⟩
  · rw [List.map_cons]
    refine List.nodup_cons.mpr ⟨fun hm => ?_, cu2.inn.nd⟩
    obtain ⟨x, hx, e1⟩ := List.mem_map.mp hm
    obtain ⟨_, _, o, ho, _⟩ := cu.inn.cell x hx
    rw [e1, hl] at ho
    cases ho
  · rcases List.mem_cons.mp hm with rfl | hm
    · exact ⟨gl, no, _, hx, xs, rfl, rs⟩
    · exact cu2.inn.cell x hm
  · rcases List.mem_cons.mp hm with rfl | hm
    · exact h0
    · exact cu.fr x hm
/-- a, b = a new list, a value -/
theorem q_parND {l2 : Nat} (h1 : EVN c cs Δ ta fun x => x = ds) (h2 : EVD c cs Δ tb b) (k : ∀ l, STS c ((l, .lst ds) :: cs) ((Δ.set i (some (.obj (.ref l)))).set j (some b)) u po) : STS c cs Δ (tSeq (tPar i j (tCons ta (tCons tb tNil))) u) po := fun F G0 H0 σ G H D cu s R e =>
  h1 σ G H s cu.inn (R.on cu.st) _ fun ds' p xs G1 H1 e1 hp gp no s1 hx rs => by
    subst e1
    have cu1 := cu.new hp gp no s1 hx rs
    refine h2.more σ G1 H1 (s.mono s1.g) cu1.inn (R.on cu1.st) _ fun d v G2 H2 e2 s2 rd => ?_
    subst e2
    exact ⟨_, _, rfl, k p F G0 H0 _ G2 H2 D (cu1.on s2) ((((s.mono s1.g).mono s2.g).set (d := .obj (.ref p)) rfl).set rd) R e⟩
/-- a, b = a value, a new list -/
theorem q_parDN (h1 : EVD c cs Δ ta a) (h2 : EVN c cs Δ tb fun x => x = ds) (k : ∀ l, STS c ((l, .lst ds) :: cs) ((Δ.set i (some a)).set j (some (.obj (.ref l)))) u po) : STS c cs Δ (tSeq (tPar i j (tCons ta (tCons tb tNil))) u) po := fun F G0 H0 σ G H D cu s R e =>
  h1 σ G H s cu.inn (R.on cu.st) _ fun d v G1 H1 e1 s1 rd => by
    subst e1
    have cu1 := cu.on s1
    refine h2 σ G1 H1 (s.mono s1.g) cu1.inn (R.on cu1.st) _ fun ds' p xs G2 H2 e2 hp gp no s2 hx rs => ?_
    subst e2
    have cu2 := cu1.new hp gp no s2 hx rs
    exact ⟨_, _, rfl, k p F G0 H0 _ G2 H2 D cu2 ((((s.mono s1.g).mono s2.g).set (rd.mono s2.g)).set rfl) R e⟩
/-- a, b, c = two new lists, a value -/
theorem q_parNND (h1 : EVN c cs Δ ta fun x => x = ds) (h2 : EVN c cs Δ tb fun x => x = es) (h3 : EVD c cs Δ tc d) (k : ∀ l m, STS c ((m, .lst es) :: (l, .lst ds) :: cs) (((Δ.set i (some (.obj (.ref l)))).set j (some (.obj (.ref m)))).set k0 (some d)) u po) :
    STS c cs Δ (tSeq (tPar3 i j k0 (tCons ta (tCons tb (tCons tc tNil)))) u) po := fun F G0 H0 σ G H D cu s R e =>
  h1 σ G H s cu.inn (R.on cu.st) _ fun ds' p xs G1 H1 e1 hp gp no s1 hx rs => by
    subst e1
    have cu1 := cu.new hp gp no s1 hx rs
    refine h2.more σ G1 H1 (s.mono s1.g) cu1.inn (R.on cu1.st) _ fun es' q ys G2 H2 e2 hq gq no2 s2 hy ry => ?_
    subst e2
    have cu2 := cu1.new hq gq no2 s2 hy ry
    refine h3.more.more σ G2 H2 ((s.mono s1.g).mono s2.g) cu2.inn (R.on cu2.st) _ fun d' v G3 H3 e3 s3 rd => ?_
    subst e3
    exact ⟨_, _, _, rfl, k p q F G0 H0 _ G3 H3 D (cu2.on s3) ((((((s.mono s1.g).mono s2.g).mono s3.g).set (d := .obj (.ref p)) rfl).set (d := .obj (.ref q)) rfl).set rd) R e⟩
/-! told[n].append(e): the list of a tuple that is a cell -/
theorem q_appT {n : Nat} {xs : List Dat} (hi : Δ[i]? = some (some (.tup xs))) (hn : xs[n]? = some (.obj (.ref l))) (h : EVP c ((l, .lst ds) :: cs) Δ te P) (hl : ds.length < 100000) (k : ∀ d, P d → STS c ((l, .lst (ds ++ [d])) :: cs) Δ u po) :
    STS c ((l, .lst ds) :: cs) Δ (tSeq (tDrop (tBM c.K "list" rAppend (tOp (rIx c.K) (tVar i) (tC (.int (n : Int)))) (tCons te tNil))) u) po := fun F G0 H0 σ G H D cu s R e => by
  obtain ⟨v, h1, h2⟩ := s.at_ i _ hi
  obtain ⟨xs', hx, _⟩ := cu.inn.lst
  obtain ⟨p, vs, rfl, hq, rs⟩ := h2
  obtain ⟨w, hw, rw_⟩ := rs.get hn
  rw [show w = .ref l from rw_] at hw
  refine ⟨.ref p, h1, .inr (.inl ⟨p, vs, (n : Int), .ref l, rfl, rfl, ex_t cu.inn.ex hq, L2.atI_nat hw, ?_⟩)⟩
  refine ⟨.inl ⟨rfl, _, .inl (.inl hx)⟩, ?_⟩
  refine h σ G H s cu.inn (R.on cu.st) _ fun d y G2 H2 pd s2 rd => ?_
  have cu2 := cu.on s2
  obtain ⟨ys, hy, ry⟩ := cu2.inn.lst
  refine ⟨l, ys, y, rfl, rfl, hy, ?_, ?_⟩
  · exact Nat.lt_of_lt_of_le (by rw [ry.len]; exact hl) (by decide)
  · exact k d pd F G0 H0 σ G2 _ D (cu2.wr (k' := .lst (ds ++ [d])) ⟨_, rfl, ry.app (Reps.one rd)⟩) (s.mono s2.g) R e
/-! list(found), found a cell with pairs for keys -/
def rListT : List V → Hp → VK → Prop := fun xs H Q => ∃ d kvs, xs = [V.ref d] ∧ Rd H d (.dT kvs) ∧ ∀ p bs, H p = none → IsKeys H kvs bs → Q (.ref p) (upd H p (.lst (bs.map V.ref)))
theorem k_listT {X : Cx} (hc : X.calm = true) : CallR X (.type "list") rListT := call_list_dT hc
theorem keys_reps {K : PySem.W.Frag} {G H : Hp} (hg : ∀ b xs, H b = some (.tup xs) → (∃ k : List Key, xs = k.map kV) → True) {ks : List (List Key)} {xs : List V} {bs : List Addr} (h : IsKeys H (ks.zip xs) bs) (hl : ks.length = xs.length) (hb : ∀ b ∈ bs, G b = H b) : Reps K G (ks.map Dat.key) (bs.map V.ref) := by
  unfold IsKeys at h
  induction ks generalizing xs bs with
  | nil => cases h; rfl
  | cons x ks ih =>
    cases xs with
    | nil => cases hl
    | cons y xs =>
      cases h with
      | @cons _ b _ bs h1 h2 =>
        exact ⟨_, _, rfl, ⟨b, rfl, by rw [hb b List.mem_cons_self]; exact h1⟩, ih h2 (by simpa using hl) fun b' hb' => hb b' (List.mem_cons_of_mem _ hb')⟩
theorem keys_tup {H : Hp} {kvs : List (List Key × V)} {bs : List Addr} (h : IsKeys H kvs bs) : ∀ b ∈ bs, ∃ xs, H b = some (.tup xs) := by
  unfold IsKeys at h
  induction h with
  | nil => exact fun _ h => nomatch h
  | cons h1 _ ih =>
    intro b hb
    rcases List.mem_cons.mp hb with rfl | hb
    · exact ⟨_, h1⟩
    · exact ih b hb
theorem q_listT {ks : List (List Key)} (hi : Δ[i]? = some (some (.obj (.ref l)))) (k : ∀ m, STS c ((m, .lst (ks.map Dat.key)) :: (l, .dcT ks ds) :: cs) (Δ.set j (some (.obj (.ref m)))) u po) :
    STS c ((l, .dcT ks ds) :: cs) Δ (tSeq (tAsg (tCB rListT (tCons (tVar i) tNil)) (gName j)) u) po := fun F G0 H0 σ G H D cu s R e => by
  obtain ⟨v, h1, h2⟩ := s.at_ i _ hi
  obtain ⟨gl, no, o, ho, xs, eo, hl, rs⟩ := cu.inn.cell _ List.mem_cons_self
  refine ⟨v, h1, l, ks.zip xs, by rw [show v = .ref l from h2], .inl (by rw [ho, eo]), fun p bs hp kb => ?_⟩
  have tup := keys_tup kb
  classical
  let G' : Hp := fun b => if b ∈ bs then H b else G b
  have e1 : Ex G G' := fun b u q => by
    by_cases z : b ∈ bs
    · show (if b ∈ bs then H b else G b) = some u
      rw [if_pos z]; exact cu.inn.ex b u q
    · show (if b ∈ bs then H b else G b) = some u
      rw [if_neg z]; exact q
  have e2 : Ex G' H := fun b u q => by
    have q : (if b ∈ bs then H b else G b) = some u := q
    by_cases z : b ∈ bs
    · rw [if_pos z] at q; exact q
    · rw [if_neg z] at q; exact cu.inn.ex b u q
  have off : ∀ b, (∀ xs, H b ≠ some (.tup xs)) → G' b = G b := fun b hb => by
    show (if b ∈ bs then H b else G b) = G b
    rw [if_neg fun z => let ⟨xs, q⟩ := tup b z; hb xs q]
  have st : Step c.W G H G' H := ⟨e1, e2, cu.inn.ok, fun _ _ _ q => q, fun b _ nb gb => by rw [off b nb]; exact gb⟩
  have cu1 := cu.on st
  have nop : ¬ c.W.own p := fun z => c.W.has _ cu1.inn.ok p z hp
  have rk : Reps c.K G' (ks.map Dat.key) (bs.map V.ref) := keys_reps (H := H) (fun _ _ _ _ => trivial) kb hl fun b hb => by
    show (if b ∈ bs then H b else G b) = H b
    rw [if_pos hb]
  have cu2 := cu1.new hp (cu1.inn.ex.none_of hp) nop (Step.aside cu1.inn (o := .lst (bs.map V.ref)) hp) upd_same rk
  exact k p F G0 H0 _ _ _ D cu2 ((s.mono e1).set rfl) R e
/-! {"k": e, ..} -/
def EVK (c : Ct) (cs : Cells) (Δ : Sts) (trs : List (TE × TE)) (ks : List Key) (ds : List Dat) : Prop :=
  ∀ σ G H, Sig c.K G σ Δ → Inn c.K c.W cs G H → Raises c G H → ∀ Q : List (V × V) → Hp → Prop, (∀ xs G2 H2, Step c.W G H G2 H2 → Reps c.K G2 ds xs → ks.length = xs.length → Q ((ks.zip xs).map fun kv => (kV kv.1, kv.2)) H2) → tPairs trs σ H Q
theorem ek_nil : EVK c cs Δ [] [] [] := fun σ G H s I R Q q => q [] G H (Step.refl I) rfl rfl
theorem ek_cons {k : Key} {ks : List Key} {trs : List (TE × TE)} (h1 : EVD c cs Δ ta (keyD k)) (h2 : EVD c cs Δ tb d) (h3 : EVK c cs Δ trs ks ds) : EVK c cs Δ ((ta, tb) :: trs) (k :: ks) (d :: ds) := fun σ G H s I R Q q =>
  h1 σ G H s I R _ fun _ x G1 H1 e1 s1 r1 => h2 σ G1 H1 (s.mono s1.g) (s1.inn I) (R.on s1) _ fun d' y G2 H2 e2 s2 r2 => by
    subst e1 e2
    refine h3 σ G2 H2 ((s.mono s1.g).mono s2.g) (s2.inn (s1.inn I)) ((R.on s1).on s2) _ fun xs G3 H3 s3 rs hl => ?_
    have ex : x = kV k := by
      cases k with
      | inl i => exact r1
      | inr z => exact r1
    rw [ex]
    exact q (y :: xs) G3 H3 ((s1.trans s2).trans s3) ⟨y, xs, rfl, r2.mono s3.g, rs⟩ (by simp [hl])
theorem mergeK_all {ks : List Key} {xs : List V} : ∀ {js : List Key} {ys : List V}, (js ++ ks).Nodup → js.length = ys.length → ks.length = xs.length → mergeK (js.zip ys) (ks.zip xs) = (js ++ ks).zip (ys ++ xs) := by
  induction ks generalizing xs with
  | nil =>
    intro js ys nd h1 h2
    cases xs with
    | nil => rw [List.append_nil, List.append_nil]; rfl
    | cons y ys => cases h2
  | cons x ks ih =>
    intro js ys nd h1 h2
    cases xs with
    | nil => cases h2
    | cons y xs =>
      have hn : x ∉ js := fun z => (List.nodup_append.mp nd).2.2 x z x List.mem_cons_self rfl
      show mergeK (putK (js.zip ys) x y) (ks.zip xs) = _
      rw [putK_new h1 hn, ih (js := js ++ [x]) (ys := ys ++ [y]) (by simpa using nd) (by simp [h1]) (by simpa using h2)]
      simp
theorem ev_disp {ks : List Key} {trs : List (TE × TE)} (h : EVK c cs Δ trs ks ds) (nd : ks.Nodup) (hl : ks.length ≤ 15) : EVD c cs Δ (tDisp trs) (.dct ks ds) := fun σ G H s I R Q q p hp => by
  have a := Step.aside I (o := .dK []) hp
  have I1 := a.inn I
  have no : ¬ c.W.own p := fun z => c.W.has _ I.ok p z hp
  refine h σ G _ s I1 (R.on a) _ fun xs G2 H2 s2 rs hk => ?_
  have hx : H2 p = some (.dK []) := s2.h p _ no upd_same
  have gp : G2 p = none := s2.d p (by rw [upd_same]; exact fun z => nomatch z) (by rw [upd_same]; exact fun _ z => nomatch z) (I.ex.none_of hp)
  refine ⟨hx, ks.zip xs, rfl, by rw [List.length_zip]; omega, ?_⟩
  have em : mergeK [] (ks.zip xs) = ks.zip xs := mergeK_all (js := []) (ys := []) (by simpa using nd) rfl hk
  rw [em]
  have st := a.trans s2
  refine q _ _ (upd G2 p (.dK (ks.zip xs))) _ rfl ⟨st.g.trans (Ex.new gp), fun b u z => ?_, c.W.wr H2 p _ _ st.ok no hx (fun φ z => nomatch z), fun b u n z => ?_, fun b hb nb gb => ?_⟩ ⟨p, xs, rfl, upd_same, hk, rs.mono (Ex.new gp)⟩
  · by_cases w : b = p
    · subst w; rw [upd_same] at z ⊢; exact z
    · rw [upd_ne w] at z ⊢; exact st.i b u z
  · rw [upd_ne (ne_of_none z hp)]; exact st.h b u n z
  · rw [upd_ne (fun z => hb (by rw [z]; exact hp))]; exact st.d b hb nb gb
/-! texts of tuples -/
theorem d_reprT (h : rpr (.tup ds) = true) (hl : (toP (.tup ds)).shown.length ≤ sizeLine) : RCP c cs (rReprD c.K) [.tup ds] (fun d => d = .str (toP (.tup ds)).shown) := fun G H xs I R rs Q q => by
  obtain ⟨x, rfl, rx⟩ := rs.only
  obtain ⟨h, h4⟩ := Bool.and_eq_true_iff.mp h
  obtain ⟨h, h3⟩ := Bool.and_eq_true_iff.mp h
  obtain ⟨h1, h2⟩ := Bool.and_eq_true_iff.mp h
  have dp := Rep.dp _ x h1 (rx.mono I.ex)
  obtain ⟨a, vs, rfl, _⟩ := rx
  exact ⟨a, _, rfl, dp, h2, by simpa using h3, of_decide_eq_true h4, hl, q _ _ G H rfl (Step.refl I) rfl⟩
end
end DV

set_option autoImplicit false
set_option linter.all false
set_option maxRecDepth 100000
set_option maxHeartbeats 2000000
/-! {x!r} of data. -/
namespace DV
open PySem PySem.Spec PyProof.Rows L2
def tFmtRD (K : PySem.W.Frag) (te : TE) : TE := fun σ H Q => te σ H fun x H1 => ∃ a d, x = .ref a ∧ Dp K H1 (.ref a) d ∧ d.showable = true ∧ d.hasDict = false ∧ d.depth ≤ 60 ∧ d.shown.length ≤ sizeLine ∧ Q (.str d.shown) H1
theorem pe_fmtRD {X : Cx} {k : Nat} {e : Expr} {te : TE} {pos : Pos} (hr : RoomG k X.A) (he : PE X e te) : PE X (.FormattedValue e 114 none pos) (tFmtRD X.K te) := by
  refine ⟨fun pins s σ H Q I h => ?_⟩
  refine wpAny_FormattedValue_repr (thn (he.run pins s σ H _ I h) fun v s1 ⟨x, H1, I1, r1, a, d, e, hd, sh, nd, dp, sz, q⟩ => ?_)
  subst e
  cases (show v = Value.ref a from r1)
  obtain ⟨as, r⟩ := Dp.reads I1 d (.ref a) (.ref a) hd rfl
  have hu := hr.r.un
  refine pyReprObj_of_reads r sh (fun z => by rw [nd] at z; cases z) hr.g (by omega) (fun b o e => e) (fun h' u tk hk => ?_) sz
  have J : Inv X pins σ H1 { s1 with heap := h', toks := tk } := I1.kept hk
  exact wpAny_formatField_str ⟨.str d.shown, H1, J, ⟨_, rfl⟩, q⟩ ⟨.str d.shown, H1, J.tok _, ⟨_, rfl⟩, q⟩ sz
section
variable {c : Ct} {cs : Cells} {Δ : Sts} {te : TE} {ds : List Dat}
theorem ev_fmtR (h : EVD c cs Δ te (.lst ds)) (hr : rpr (.lst ds) = true) (hl : (toP (.lst ds)).shown.length ≤ sizeLine) : EVD c cs Δ (tFmtRD c.K te) (.str (toP (.lst ds)).shown) := fun σ G H s I R Q q =>
  h σ G H s I R _ fun d v G1 H1 e s1 rd => by
    subst e
    obtain ⟨hr, h4⟩ := Bool.and_eq_true_iff.mp hr
    obtain ⟨hr, h3⟩ := Bool.and_eq_true_iff.mp hr
    obtain ⟨h1, h2⟩ := Bool.and_eq_true_iff.mp hr
    have dp := Rep.dp _ v h1 (rd.mono s1.i)
    obtain ⟨a, vs, rfl, _⟩ := rd
    exact ⟨a, _, rfl, dp, h2, by simpa using h3, of_decide_eq_true h4, hl, q _ _ G1 H1 rfl s1 rfl⟩
end
end DV

set_option autoImplicit false
set_option linter.all false
set_option maxRecDepth 100000
set_option maxHeartbeats 2000000
/-! Comprehensions with tests and with tuples for targets, told by a list; all(..) over them. -/
namespace DV
open PySem PySem.Spec PyProof.Rows L2
section
variable {c : Ct} {cs : Cells} {Δ : Sts} {te tl : TE} {tt : TT} {ds : List Dat} {vs : List Nat} {wi : TI} {i j l : Nat} {gt : TG} {α : Type}
/-- items xs.map g, the test p, the elements f: what comes -/
theorem en_filt (xs : List α) (g f : α → Dat) (p : α → Bool) {Δf : Dat → Sts} {is : List Nat} (hw : EVF c cs Δ wi fun x => x = xs.map g) (hl : xs.length ≤ 50000) (hg : ∀ x ∈ xs, GTP c (wipeD Δ vs) gt (g x) (Δf (g x)) is) (hv : ∀ i ∈ is, i ∈ vs)
    (hi : ∀ x ∈ xs, ∀ y ∈ xs, g x = g y → p x = p y ∧ (p x = true → f x = f y)) (ht : ∀ x ∈ xs, EVT c cs (Δf (g x)) tt (p x)) (he : ∀ x ∈ xs, p x = true → EVD c cs (Δf (g x)) te (f x)) : EVN c cs Δ (tLc wi gt tt te vs) fun es => es = (xs.filter p).map f := by
  refine (en_lc (PL := fun x => x = xs.map g) (Δf := Δf) (is := is) (Pt := fun d b => ∃ x ∈ xs, d = g x ∧ b = p x) (Pe := fun d e => ∃ x ∈ xs, d = g x ∧ p x = true ∧ e = f x) hw ?_ ?_ hv ?_ ?_).imp ?_
  · rintro ds rfl
    rw [List.length_map]; exact hl
  · rintro ds d rfl hd
    obtain ⟨x, hx, rfl⟩ := List.mem_map.mp hd
    exact hg x hx
  · rintro ds d rfl hd
    obtain ⟨x, hx, rfl⟩ := List.mem_map.mp hd
    exact fun σ G H s I R Q q => ht x hx σ G H s I R Q fun b G2 H2 e => q b G2 H2 ⟨x, hx, rfl, e⟩
  · rintro ds d rfl hd ⟨y, hy, e, ey⟩
    obtain ⟨x, hx, rfl⟩ := List.mem_map.mp hd
    have px : p x = true := (hi x hx y hy e).1.trans ey.symm
    exact (he x hx px).imp fun e h => ⟨x, hx, rfl, px, h⟩
  · rintro es ⟨ds, rfl, h⟩
    have key : ∀ {ds es : List Dat}, CompR (fun d b => ∃ x ∈ xs, d = g x ∧ b = p x) (fun d e => ∃ x ∈ xs, d = g x ∧ p x = true ∧ e = f x) ds es → ∀ ys : List α, (∀ y ∈ ys, y ∈ xs) → ds = ys.map g → es = (ys.filter p).map f := by
      intro ds es h
      have last : ∀ {ys : List α} {ds : List Dat} {d : Dat}, ds ++ [d] = ys.map g → ∃ ys1 y, ys = ys1 ++ [y] ∧ ds = ys1.map g ∧ d = g y := by
        intro ys ds d e0
        obtain ⟨ys1, ys2, rfl, e1, e2⟩ := List.map_eq_append_iff.mp e0.symm
        match ys2, e2 with
        | [y], e2 => exact ⟨ys1, y, rfl, e1.symm, by simpa using e2.symm⟩
      induction h with
      | nil =>
        intro ys _ e
        rw [List.map_eq_nil_iff.mp e.symm]
        rfl
      | yes _ h2 h3 ih =>
        intro ys hy e0
        obtain ⟨ys1, y, rfl, e1, e2⟩ := last e0
        obtain ⟨x, hx, hd, hb⟩ := h2
        obtain ⟨z, hz, hd2, pz, he⟩ := h3
        have hy0 : y ∈ xs := hy y (by simp)
        have q := hi z hz y hy0 (hd2.symm.trans e2)
        have py : p y = true := q.1.symm.trans pz
        rw [List.filter_append, List.map_append, ← ih ys1 (fun z hz => hy z (List.mem_append_left _ hz)) e1, List.filter_cons, if_pos py, he, q.2 pz]
        rfl
      | no _ h2 ih =>
        intro ys hy e0
        obtain ⟨ys1, y, rfl, e1, e2⟩ := last e0
        obtain ⟨x, hx, hd, hb⟩ := h2
        have hy0 : y ∈ xs := hy y (by simp)
        have py : p y = false := ((hi x hx y hy0 (hd.symm.trans e2)).1).symm.trans hb.symm
        rw [List.filter_append, List.map_append, ← ih ys1 (fun z hz => hy z (List.mem_append_left _ hz)) e1, List.filter_cons, if_neg (by rw [py]; decide)]
        simp
    exact key h xs (fun _ h => h) rfl
/-- one name -/
theorem en_filt1 (xs : List α) (g f : α → Dat) (p : α → Bool) (hw : EVF c cs Δ wi fun x => x = xs.map g) (hl : xs.length ≤ 50000) (hi : i ∈ vs) (hf : ∀ x ∈ xs, ∀ y ∈ xs, g x = g y → p x = p y ∧ (p x = true → f x = f y))
    (ht : ∀ x ∈ xs, EVT c cs ((wipeD Δ vs).set i (some (g x))) tt (p x)) (he : ∀ x ∈ xs, p x = true → EVD c cs ((wipeD Δ vs).set i (some (g x))) te (f x)) : EVN c cs Δ (tLc wi (gName i) tt te vs) fun es => es = (xs.filter p).map f :=
  en_filt xs g f p (Δf := fun d => (wipeD Δ vs).set i (some d)) (is := [i]) hw hl (fun _ _ => g_name) (fun j hj => by rw [List.mem_singleton.mp hj]; exact hi) hf ht he
/-- what a tuple's parts make of the names -/
def set2 (Δ : Sts) (i j : Nat) : Dat → Sts
  | .tup [a, b] => (Δ.set i (some a)).set j (some b)
  | _ => []
def set3 (Δ : Sts) (i j l : Nat) : Dat → Sts
  | .tup [a, b, d] => ((Δ.set i (some a)).set j (some b)).set l (some d)
  | _ => []
theorem g_set2 {a b : Dat} : GTP c Δ (gTup c.K 2 (gCons (gName i) (gCons (gName j) gNil))) (.tup [a, b]) (set2 Δ i j (.tup [a, b])) ([i] ++ ([j] ++ [])) := g_two
theorem g_set3 {a b d : Dat} : GTP c Δ (gTup c.K 3 (gCons (gName i) (gCons (gName j) (gCons (gName l) gNil)))) (.tup [a, b, d]) (set3 Δ i j l (.tup [a, b, d])) ([i] ++ ([j] ++ ([l] ++ []))) := g_tup (gs_cons g_name (gs_cons g_name (gs_cons g_name gs_nil)))
theorem en_filt2 (xs : List α) (g1 g2 f : α → Dat) (p : α → Bool) (hw : EVF c cs Δ wi fun x => x = xs.map fun x => Dat.tup [g1 x, g2 x]) (hl : xs.length ≤ 50000) (hv : i ∈ vs ∧ j ∈ vs) (hf : ∀ x ∈ xs, ∀ y ∈ xs, g1 x = g1 y → g2 x = g2 y → p x = p y ∧ (p x = true → f x = f y))
    (ht : ∀ x ∈ xs, EVT c cs (((wipeD Δ vs).set i (some (g1 x))).set j (some (g2 x))) tt (p x)) (he : ∀ x ∈ xs, p x = true → EVD c cs (((wipeD Δ vs).set i (some (g1 x))).set j (some (g2 x))) te (f x)) :
    EVN c cs Δ (tLc wi (gTup c.K 2 (gCons (gName i) (gCons (gName j) gNil))) tt te vs) fun es => es = (xs.filter p).map f :=
  en_filt xs (fun x => Dat.tup [g1 x, g2 x]) f p (Δf := set2 (wipeD Δ vs) i j) (is := [i] ++ ([j] ++ [])) hw hl (fun _ _ => g_set2) (fun k hk => by simp at hk; rcases hk with rfl | rfl; exact hv.1; exact hv.2)
    (fun x hx y hy e => by
      simp at e
      exact hf x hx y hy e.1 e.2) ht he
theorem en_filt3 (xs : List α) (g1 g2 g3 f : α → Dat) (p : α → Bool) (hw : EVF c cs Δ wi fun x => x = xs.map fun x => Dat.tup [g1 x, g2 x, g3 x]) (hl : xs.length ≤ 50000) (hv : i ∈ vs ∧ j ∈ vs ∧ l ∈ vs) (hf : ∀ x ∈ xs, ∀ y ∈ xs, g1 x = g1 y → g2 x = g2 y → g3 x = g3 y → p x = p y ∧ (p x = true → f x = f y))
    (ht : ∀ x ∈ xs, EVT c cs ((((wipeD Δ vs).set i (some (g1 x))).set j (some (g2 x))).set l (some (g3 x))) tt (p x)) (he : ∀ x ∈ xs, p x = true → EVD c cs ((((wipeD Δ vs).set i (some (g1 x))).set j (some (g2 x))).set l (some (g3 x))) te (f x)) :
    EVN c cs Δ (tLc wi (gTup c.K 3 (gCons (gName i) (gCons (gName j) (gCons (gName l) gNil)))) tt te vs) fun es => es = (xs.filter p).map f :=
  en_filt xs (fun x => Dat.tup [g1 x, g2 x, g3 x]) f p (Δf := set3 (wipeD Δ vs) i j l) (is := [i] ++ ([j] ++ ([l] ++ []))) hw hl (fun _ _ => g_set3) (fun k hk => by simp at hk; rcases hk with rfl | rfl | rfl; exact hv.1; exact hv.2.1; exact hv.2.2)
    (fun x hx y hy e => by
      simp at e
      exact hf x hx y hy e.1 e.2.1 e.2.2) ht he
theorem EVF.imp {P P' : List Dat → Prop} (h : EVF c cs Δ wi P) (w : ∀ d, P d → P' d) : EVF c cs Δ wi P' := fun σ G H s I R Q q => h σ G H s I R Q fun ds J G2 H2 p => q ds J G2 H2 (w ds p)
/-! all(..) -/
theorem all_of {xs : List α} {f : α → Bool} (h : EVN c cs Δ tl fun es => es = (xs.filter fun _ => true).map fun x => Dat.bl (f x)) : EVD c cs Δ (tCB (rAll c.K) (tCons tl tNil)) (.bl (xs.all f)) := by
  have e : ((xs.filter fun _ => true).map fun x => Dat.bl (f x)) = (xs.map f).map Dat.bl := by
    rw [List.filter_eq_self.mpr (fun _ _ => rfl), List.map_map]; rfl
  rw [e] at h
  refine EVD.to (ev_cb (ea_cons h.goodD ea_nil) d_all) ?_
  rw [List.all_map]
  rfl
theorem v_all1 (xs : List α) (g : α → Dat) (f : α → Bool) (hw : EVF c cs Δ wi fun x => x = xs.map g) (hl : xs.length ≤ 50000) (hi : i ∈ vs) (hf : ∀ x ∈ xs, ∀ y ∈ xs, g x = g y → f x = f y) (he : ∀ x ∈ xs, EVD c cs ((wipeD Δ vs).set i (some (g x))) te (.bl (f x))) :
    EVD c cs Δ (tCB (rAll c.K) (tCons (tLc wi (gName i) tYes te vs) tNil)) (.bl (xs.all f)) :=
  all_of (en_filt1 xs g (fun x => .bl (f x)) (fun _ => true) hw hl hi (fun x hx y hy e => ⟨rfl, fun _ => by rw [hf x hx y hy e]⟩) (fun _ _ => et_yes) fun x hx _ => he x hx)
theorem v_all2 (xs : List α) (g1 g2 : α → Dat) (f : α → Bool) (hw : EVF c cs Δ wi fun x => x = xs.map fun x => Dat.tup [g1 x, g2 x]) (hl : xs.length ≤ 50000) (hv : i ∈ vs ∧ j ∈ vs) (hf : ∀ x ∈ xs, ∀ y ∈ xs, g1 x = g1 y → g2 x = g2 y → f x = f y)
    (he : ∀ x ∈ xs, EVD c cs (((wipeD Δ vs).set i (some (g1 x))).set j (some (g2 x))) te (.bl (f x))) : EVD c cs Δ (tCB (rAll c.K) (tCons (tLc wi (gTup c.K 2 (gCons (gName i) (gCons (gName j) gNil))) tYes te vs) tNil)) (.bl (xs.all f)) :=
  all_of (en_filt2 xs g1 g2 (fun x => .bl (f x)) (fun _ => true) hw hl hv (fun x hx y hy e e' => ⟨rfl, fun _ => by rw [hf x hx y hy e e']⟩) (fun _ _ => et_yes) fun x hx _ => he x hx)
end
end DV

set_option autoImplicit false
set_option linter.all false
set_option maxRecDepth 100000
set_option maxHeartbeats 2000000
/-! zip of two tuples. -/
namespace DV
open PySem PySem.Spec PyProof.Rows L2
section
variable {c : Ct} {cs : Cells} {Δ : Sts} {ta : TA} {ds es : List Dat}
theorem f_zipT (h : EVL c cs Δ ta [.tup ds, .tup es]) : EVF c cs Δ (iZipX c.K ta) fun l => l = (ds.zip es).map fun p => Dat.tup [p.1, p.2] := fun σ G H s I R Q k => by
  refine .inl (h σ G H s I R _ fun dl vl G2 H2 e s2 rd => ?_)
  subst e
  obtain ⟨u, v, rfl, ⟨a, xs, rfl, ha, ra⟩, ⟨b, ys, rfl, hb, rb⟩⟩ := rd.two
  refine ⟨a, b, xs, ys, rfl, .inr ⟨ex_t s2.i ha, ex_t s2.i hb, k _ _ G2 H2 rfl s2 fun cs G' H' e I' i => ⟨fun hl => ?_, fun d hd => ?_⟩⟩⟩
  · rw [List.length_map, List.length_zip] at hl
    exact ⟨xs, ys, ex_t (e.trans I'.ex) ha, ex_t (e.trans I'.ex) hb, by rw [ra.len, rb.len]; omega⟩
  · rw [List.getElem?_map] at hd
    cases e0 : (ds.zip es)[i]? with
    | none => rw [e0] at hd; cases hd
    | some p =>
      rw [e0] at hd
      cases hd
      obtain ⟨e1, e2⟩ := List.getElem?_zip_eq_some.mp e0
      obtain ⟨x, hx, rx⟩ := ra.get e1
      obtain ⟨y, hy, ry⟩ := rb.get e2
      have qa := ex_t (K := c.K) (e.trans I'.ex) ha
      have qb := ex_t (K := c.K) (e.trans I'.ex) hb
      refine ⟨⟨xs, ys, x, y, qa, qb, hx, hy⟩, fun z H'' ⟨T, x', y', q1, q2, q3, q4, q5⟩ => ?_⟩
      have w1 := q4 xs qa
      have w2 := q5 ys qb
      rw [hx] at w1
      rw [hy] at w2
      cases w1
      cases w2
      subst q1 q3
      have n := Step.new I' (o := .tup [x, y]) q2
      exact ⟨_, n, T, _, rfl, upd_same, _, _, rfl, (rx.mono e).mono n.g, _, _, rfl, (ry.mono e).mono n.g, rfl⟩
end
end DV

set_option autoImplicit false
set_option linter.all false
set_option maxRecDepth 100000
set_option maxHeartbeats 1000000
/-! A reading of HandS beside a plain function that reckons it: what the function answers, the reading answers. -/
namespace DV
open PySem L2

/-! ### what names hold -/
/-- what a cell of one's own holds -/
inductive Cel where
  | lst (ds : List Dat) | ins (C : Addr) (fs : List Str) (ds : List Dat) | dct (ks : List Key) (ds : List Dat) | dcT (ks : List (List Key)) (ds : List Dat)
def RepO (K : PySem.W.Frag) (G : Hp) : Cel → HO → Prop
  | .lst ds, o => ∃ xs, o = .lst xs ∧ Reps K G ds xs
  | .ins C fs ds, o => ∃ dx xs, o = .ins C dx (fs.zip xs) ∧ fs.length = xs.length ∧ Reps K G ds xs
  | .dct ks ds, o => ∃ xs, o = .dK (ks.zip xs) ∧ ks.length = xs.length ∧ Reps K G ds xs
  | .dcT ks ds, o => ∃ xs, o = .dT (ks.zip xs) ∧ ks.length = xs.length ∧ Reps K G ds xs
@[simp] def Cel.dat : Cel → Dat
  | .lst ds => .lst ds
  | .ins C fs ds => .ins C fs ds
  | .dct ks ds => .dct ks ds
  | .dcT ks ds => .dcT ks ds
theorem RepO.mono {K : PySem.W.Frag} {G G' : Hp} (e : Ex G G') : ∀ {k : Cel} {o : HO}, RepO K G k o → RepO K G' k o
  | .lst ds, o, ⟨xs, h, r⟩ => ⟨xs, h, r.mono e⟩
  | .ins C fs ds, o, ⟨dx, xs, h, l, r⟩ => ⟨dx, xs, h, l, r.mono e⟩
  | .dct ks ds, o, ⟨xs, h, l, r⟩ => ⟨xs, h, l, r.mono e⟩
  | .dcT ks ds, o, ⟨xs, h, l, r⟩ => ⟨xs, h, l, r.mono e⟩
theorem RepO.good {K : PySem.W.Frag} {G : Hp} {p : Addr} : ∀ {k : Cel} {o : HO}, RepO K G k o → G p = some o → Rep K G k.dat (.ref p)
  | .lst ds, o, ⟨xs, h, r⟩, g => ⟨p, xs, rfl, SqL.of (by rw [g, h]), r⟩
  | .ins C fs ds, o, ⟨dx, xs, h, l, r⟩, g => ⟨p, dx, xs, rfl, by rw [g, h], l, r⟩
  | .dct ks ds, o, ⟨xs, h, l, r⟩, g => ⟨p, xs, rfl, by rw [g, h], l, r⟩
  | .dcT ks ds, o, ⟨xs, h, l, r⟩, g => ⟨p, xs, rfl, by rw [g, h], l, r⟩
theorem RepO.notup {K : PySem.W.Frag} {G : Hp} : ∀ {k : Cel} {o : HO}, RepO K G k o → ∀ xs, o ≠ HO.tup xs
  | .lst ds, o, ⟨xs, h, r⟩ => fun φ e => by rw [h] at e; cases e
  | .ins C fs ds, o, ⟨dx, xs, h, r⟩ => fun φ e => by rw [h] at e; cases e
  | .dct ks ds, o, ⟨xs, h, r⟩ => fun φ e => by rw [h] at e; cases e
  | .dcT ks ds, o, ⟨xs, h, r⟩ => fun φ e => by rw [h] at e; cases e
/-- data that stand for good, or a cell (p: it belongs to the caller) -/
inductive Ow where
  | d (x : Dat) | c (p : Bool) (k : Cel)
abbrev Env := List (Option Ow)
/-- at a there is a cell -/
def Hold (K : PySem.W.Frag) (G H : Hp) (a : Addr) (k : Cel) : Prop := G a = none ∧ ∃ o, H a = some o ∧ RepO K G k o
def OwnA (s : Env) (σ : L2.St) (a : Addr) : Prop := ∃ (i : Nat) (p : Bool) (k : Cel), s[i]? = some (some (.c p k)) ∧ σ[i]? = some (some (.ref a))
structure Now (K : PySem.W.Frag) (s : Env) (σ : L2.St) (G H : Hp) : Prop where
  ex : Ex G H
  len : σ.length = s.length
  dat : ∀ (i : Nat) (x : Dat), s[i]? = some (some (.d x)) → ∃ v, σ[i]? = some (some v) ∧ Rep K G x v
  own : ∀ (i : Nat) (p : Bool) (k : Cel), s[i]? = some (some (.c p k)) → ∃ a, σ[i]? = some (some (.ref a)) ∧ Hold K G H a k
  sep : ∀ (i j : Nat) (p q : Bool) (k l : Cel) (a : Addr), s[i]? = some (some (.c p k)) → s[j]? = some (some (.c q l)) → σ[i]? = some (some (.ref a)) → σ[j]? = some (some (.ref a)) → i = j
/-- nothing but what O names was changed -/
structure Mv (O : Addr → Prop) (G H G2 H2 : Hp) : Prop where
  g : Ex G G2
  i : Ex G2 H2
  h : ∀ a o, ¬ O a → H a = some o → H2 a = some o
  d : ∀ a, ¬ O a → H a ≠ none → (∀ xs, H a ≠ some (.tup xs)) → G a = none → G2 a = none
  e : ∀ a, H a ≠ none → H2 a ≠ none
/-- a list's content is replaced -/
theorem Mv.writ {G H : Hp} {a : Addr} {o : HO} (e : Ex G H) (g : G a = none) : Mv (fun b => b = a) G H G (upd H a o) := ⟨Ex.refl _, e.out g, fun b o' nb h => by rw [upd_ne nb]; exact h, fun _ _ _ _ g => g, fun b z => by
  by_cases q : b = a
  · rw [q, upd_same]; exact fun w => nomatch w
  · rw [upd_ne q]; exact z⟩
abbrev nOne : Addr → Prop := fun _ => False
section
variable {K : PySem.W.Frag} {O O' : Addr → Prop} {s s' s'' : Env} {σ : L2.St} {G H G1 H1 G2 H2 : Hp} {a : Addr} {k : Cel}
theorem Mv.refl (e : Ex G H) : Mv O G H G H := ⟨Ex.refl _, e, fun _ _ _ h => h, fun _ _ _ _ h => h, fun _ h => h⟩
theorem Mv.weak (m : Mv O G H G2 H2) (w : ∀ a, O a → O' a) : Mv O' G H G2 H2 := ⟨m.g, m.i, fun a o n => m.h a o fun z => n (w a z), fun a n => m.d a fun z => n (w a z), m.e⟩
theorem Mv.trans (m : Mv O G H G1 H1) (n : Mv O G1 H1 G2 H2) : Mv O G H G2 H2 := by
  refine ⟨m.g.trans n.g, n.i, fun a o z e => n.h a o z (m.h a o z e), fun a z h1 h2 h3 => ?_, fun a z => n.e a (m.e a z)⟩
  cases q : H a with
  | none => exact absurd q h1
  | some o =>
    have e := m.h a o z q
    exact n.d a z (by rw [e]; exact fun w => nomatch w) (fun xs w => h2 xs (by rw [q, ← e, w])) (m.d a z h1 h2 h3)
theorem Mv.ofStep (st : Step Wld.none G H G2 H2) : Mv O G H G2 H2 := ⟨st.g, st.i, fun a o _ e => st.h a o (fun z => z) e, fun a _ => st.d a, fun a z => by
  cases q : H a with
  | none => exact absurd q z
  | some o => rw [st.h a o (fun z => z) q]; exact fun w => nomatch w⟩
theorem Hold.mv (h : Hold K G H a k) (m : Mv O G H G2 H2) (n : ¬ O a) : Hold K G2 H2 a k := by
  obtain ⟨g, o, e, r⟩ := h
  exact ⟨m.d a n (by rw [e]; exact fun z => nomatch z) (fun xs z => r.notup xs (by rw [e] at z; exact Option.some.inj z)) g, o, m.h a o n e, r.mono m.g⟩
theorem Hold.ne (h : Hold K G H a k) (hp : H a = none) : False := by
  obtain ⟨_, o, e, _⟩ := h
  rw [e] at hp; cases hp
theorem Now.mv (n : Now K s σ G H) (m : Mv nOne G H G2 H2) : Now K s σ G2 H2 :=
  ⟨m.i, n.len, fun i x e => let ⟨v, h1, h2⟩ := n.dat i x e; ⟨v, h1, h2.mono m.g⟩, fun i p k e => let ⟨a, h1, h2⟩ := n.own i p k e; ⟨a, h1, h2.mv m fun z => z⟩, n.sep⟩
theorem Now.mvO (n : Now K s σ G H) (m : Mv O G H G2 H2) (no : ∀ a, OwnA s σ a → ¬ O a) : Now K s σ G2 H2 :=
  ⟨m.i, n.len, fun i x e => let ⟨v, h1, h2⟩ := n.dat i x e; ⟨v, h1, h2.mono m.g⟩, fun i p k e => let ⟨a, h1, h2⟩ := n.own i p k e; ⟨a, h1, h2.mv m (no a ⟨i, p, k, e, h1⟩)⟩, n.sep⟩
theorem Now.notOwn (n : Now K s σ G H) (h : H a = none) : ¬ OwnA s σ a := fun ⟨i, p, k, h1, h2⟩ => by
  obtain ⟨b, h3, h4⟩ := n.own i p k h1
  rw [h2] at h3
  cases h3
  exact h4.ne h
/-- what may happen to the names behind an expression -/
structure Lt (s s' : Env) : Prop where
  len : s'.length = s.length
  own : ∀ (i : Nat) (p : Bool) (k : Cel), s'[i]? = some (some (.c p k)) → ∃ k0, s[i]? = some (some (.c p k0))
  pin : ∀ (i : Nat) (k : Cel), s[i]? = some (some (.c true k)) → ∃ k', s'[i]? = some (some (.c true k'))
theorem Lt.refl (s : Env) : Lt s s := ⟨rfl, fun _ _ k h => ⟨k, h⟩, fun _ k h => ⟨k, h⟩⟩
theorem Lt.trans (a : Lt s s') (b : Lt s' s'') : Lt s s'' := ⟨b.len.trans a.len, fun i p k h => let ⟨k0, h0⟩ := b.own i p k h; a.own i p k0 h0, fun i k h => let ⟨k0, h0⟩ := a.pin i k h; b.pin i k0 h0⟩
theorem Lt.ownA (l : Lt s s') (h : OwnA s' σ a) : OwnA s σ a := let ⟨i, p, k, h1, h2⟩ := h; let ⟨k0, h0⟩ := l.own i p k h1; ⟨i, p, k0, h0, h2⟩
/-- behind an expression -/
structure After (K : PySem.W.Frag) (σ : L2.St) (s : Env) (G H : Hp) (s' : Env) (G' H' : Hp) : Prop where
  now : Now K s' σ G' H'
  mv : Mv (OwnA s σ) G H G' H'
  lt : Lt s s'
theorem After.refl (n : Now K s σ G H) : After K σ s G H s G H := ⟨n, Mv.refl n.ex, Lt.refl s⟩
theorem After.trans (a : After K σ s G H s' G1 H1) (b : After K σ s' G1 H1 s'' G2 H2) : After K σ s G H s'' G2 H2 := ⟨b.now, a.mv.trans (b.mv.weak fun _ z => a.lt.ownA z), a.lt.trans b.lt⟩
theorem After.step (n : Now K s σ G H) (st : Step Wld.none G H G2 H2) : After K σ s G H s G2 H2 := ⟨n.mv (Mv.ofStep st), Mv.ofStep st, Lt.refl s⟩
theorem After.mvN (n : Now K s σ G H) (m : Mv nOne G H G2 H2) : After K σ s G H s G2 H2 := ⟨n.mv m, m.weak fun _ z => z.elim, Lt.refl s⟩
theorem Now.inn (n : Now K s σ G H) : Inn K Wld.none [] G H := ⟨n.ex, trivial, fun _ z => z.elim, List.nodup_nil, fun _ z => nomatch z⟩
end
/-! ### what a function answers -/
inductive Out (α : Type) where
  | ok (a : α) (s : Env) | exc (x : Exc) (s : Env) | bad
def Out.bind {α β : Type} (o : Out α) (f : α → Env → Out β) : Out β := match o with
  | .ok a s => f a s
  | .exc x s => .exc x s
  | .bad => .bad
def lift {α : Type} (o : Option α) (s : Env) : Out α := match o with
  | some a => .ok a s
  | none => .bad
@[simp] theorem Out.bind_ok {α β : Type} (a : α) (s : Env) (f : α → Env → Out β) : (Out.ok a s).bind f = f a s := rfl
@[simp] theorem Out.bind_exc {α β : Type} (x : Exc) (s : Env) (f : α → Env → Out β) : (Out.exc x s).bind f = .exc x s := rfl
@[simp] theorem Out.bind_bad {α β : Type} (f : α → Env → Out β) : (Out.bad).bind f = .bad := rfl
@[simp] theorem lift_some {α : Type} (a : α) (s : Env) : lift (some a) s = .ok a s := rfl
@[simp] theorem lift_none {α : Type} (s : Env) : lift (none : Option α) s = .bad := rfl
abbrev EvD := Env → Out Dat
abbrev EvO := Env → Out Cel
abbrev EvT := Env → Out Bool
abbrev EvA := Env → Out (List Dat)
def Gets (K : PySem.W.Frag) (E : XK) {α β : Type} (σ : L2.St) (s : Env) (G H : Hp) (R : Hp → Hp → α → β → Prop) (o : Out α) (Q : β → Hp → Prop) : Prop := match o with
  | .ok a s' => ∀ v G' H', After K σ s G H s' G' H' → R G' H' a v → Q v H'
  | .exc x s' => ∀ cls dd G' H', After K σ s G H s' G' H' → RepX K G' H' x cls dd → E cls dd H'
  | .bad => False
section
variable {K : PySem.W.Frag} {E : XK} {α β γ δ : Type} {σ : L2.St} {s s' s1 : Env} {G H G1 H1 G2 H2 : Hp} {R R1 : Hp → Hp → α → β → Prop} {R2 : Hp → Hp → γ → δ → Prop} {o : Out α} {Q Q1 : β → Hp → Prop} {Q2 : δ → Hp → Prop}
theorem Gets.shift (h : Gets K E σ s G H R o Q) (a : After K σ s G H s1 G1 H1) : Gets K E σ s1 G1 H1 R o Q := by
  cases o with
  | ok x s' => exact fun v G' H' b r => h v G' H' (a.trans b) r
  | exc x s' => exact fun c d G' H' b r => h c d G' H' (a.trans b) r
  | bad => exact h
theorem Gets.seq {f : α → Env → Out γ} (h : Gets K E σ s G H R2 (o.bind f) Q2) (k : ∀ a s1 v G1 H1, o = .ok a s1 → After K σ s G H s1 G1 H1 → R1 G1 H1 a v → Gets K E σ s1 G1 H1 R2 (f a s1) Q2 → Q1 v H1) : Gets K E σ s G H R1 o Q1 := by
  cases o with
  | ok x s' => exact fun v G' H' b r => k x s' v G' H' rfl b r (h.shift b)
  | exc x s' => exact h
  | bad => exact h
theorem Gets.lift {x : Option γ} (h : Gets K E σ s G H R2 (DV.lift x s1) Q2) : ∃ a, x = some a ∧ Gets K E σ s G H R2 (.ok a s1) Q2 := by
  cases x with
  | some a => exact ⟨a, rfl, h⟩
  | none => exact h.elim
end
/-! ### a reading's soundness -/
/-- what pure operations are asked in -/
abbrev ct (K : PySem.W.Frag) : Ct := ⟨K, Wld.none, fun _ _ _ => False, fun _ => False⟩
theorem ct_raises {K : PySem.W.Frag} {G H : Hp} : Raises (ct K) G H := fun _ _ _ _ _ z => z.elim
def SD (K : PySem.W.Frag) (E : XK) (te : TE) (ev : EvD) : Prop := ∀ s σ G H, Now K s σ G H → ∀ Q : VK, Gets K E σ s G H (fun G' _ d v => Rep K G' d v) (ev s) Q → te σ H Q
/-- a new cell -/
def SO (K : PySem.W.Frag) (E : XK) (te : TE) (ev : EvO) : Prop := ∀ s σ G H, Now K s σ G H → ∀ Q : VK, Gets K E σ s G H (fun G' H' k v => ∃ a, v = .ref a ∧ H a = none ∧ Hold K G' H' a k) (ev s) Q → te σ H Q
def STt (K : PySem.W.Frag) (E : XK) (tt : TT) (ev : EvT) : Prop := ∀ s σ G H, Now K s σ G H → ∀ Q : Bool → Hp → Prop, Gets K E σ s G H (fun _ _ a b => a = b) (ev s) Q → tt σ H Q
def SA (K : PySem.W.Frag) (E : XK) (ta : TA) (ev : EvA) : Prop := ∀ s σ G H, Now K s σ G H → ∀ Q : List V → Hp → Prop, Gets K E σ s G H (fun G' _ ds vs => Reps K G' ds vs) (ev s) Q → ta σ H Q
/-- pure operations -/
def OpS (K : PySem.W.Frag) (r : R2) (f : Dat → Dat → Option Dat) : Prop := ∀ a b d, f a b = some d → ROD (ct K) [] r a b d
def UnS (K : PySem.W.Frag) (r : V → Hp → VK → Prop) (f : Dat → Option Dat) : Prop := ∀ a d, f a = some d → RUP (ct K) [] r a (fun x => x = d)
def CbS (K : PySem.W.Frag) (r : List V → Hp → VK → Prop) (f : List Dat → Option Dat) : Prop := ∀ a d, f a = some d → RCD (ct K) [] r a d
/-- .. that make a new list -/
def CbN (K : PySem.W.Frag) (r : List V → Hp → VK → Prop) (f : List Dat → Option (List Dat)) : Prop := ∀ as ds, f as = some ds → ∀ G H xs, Ex G H → Reps K G as xs → ∀ Q : VK, (∀ p ys G2 H2, H p = none → Step Wld.none G H G2 H2 → G2 p = none → H2 p = some (.lst ys) → Reps K G2 ds ys → Q (.ref p) H2) → r xs H Q
section
variable {K : PySem.W.Frag} {E : XK} {te ta tb tc to : TE} {ea eb ec : EvD} {eo : EvO} {tt tu : TT} {et eu : EvT} {tr tk : TA} {er ek : EvA}
theorem reps_nil {G : Hp} : Reps K G [] [] := rfl
/-! names, constants -/
/-- a name; a cell is taken for good -/
@[simp] def eVar (i : Nat) (s : Env) : Out Dat := match s[i]? with
  | some (some (.d x)) => .ok x s
  | some (some (.c false k)) => .ok k.dat (s.set i (some (.d k.dat)))
  | _ => .bad
theorem Now.freeze {s : Env} {σ : L2.St} {G H : Hp} (n : Now K s σ G H) {i : Nat} {k : Cel} (e : s[i]? = some (some (.c false k))) : ∃ a G', σ[i]? = some (some (.ref a)) ∧ After K σ s G H (s.set i (some (.d k.dat))) G' H ∧ Rep K G' k.dat (.ref a) := by
  obtain ⟨a, ha, g, o, ho, r⟩ := n.own i _ k e
  have eg : Ex G (upd G a o) := Ex.new g
  have ei : Ex (upd G a o) H := fun b u q => by
    by_cases z : b = a
    · rw [z, upd_same] at q; cases q; rw [z]; exact ho
    · rw [upd_ne z] at q; exact n.ex b u q
  have rd : Rep K (upd G a o) k.dat (.ref a) := (r.mono eg).good upd_same
  have hi : i < s.length := by
    rcases Nat.lt_or_ge i s.length with q | q
    · exact q
    · rw [List.getElem?_eq_none q] at e; cases e
  have oth : ∀ (j : Nat) (p : Bool) (l : Cel), (s.set i (some (.d k.dat)))[j]? = some (some (.c p l)) → j ≠ i ∧ s[j]? = some (some (.c p l)) := fun j p l h => by
    by_cases z : i = j
    · subst z
      rw [List.getElem?_set_self hi] at h; cases h
    · rw [List.getElem?_set_ne z] at h
      exact ⟨fun w => z w.symm, h⟩
  refine ⟨a, upd G a o, ha, ⟨⟨ei, by rw [List.length_set]; exact n.len, fun j x h => ?_, fun j p l h => ?_, fun j1 j2 p q l m b h1 h2 h3 h4 => n.sep j1 j2 p q l m b (oth _ _ _ h1).2 (oth _ _ _ h2).2 h3 h4⟩, ⟨eg, ei, fun _ _ _ h => h, fun b nb _ _ gb => ?_, fun _ h => h⟩, ⟨List.length_set, fun j p l h => ⟨l, (oth _ _ _ h).2⟩, fun j l h => ?_⟩⟩, rd⟩
  · by_cases z : i = j
    · subst z
      rw [List.getElem?_set_self hi] at h
      cases h
      exact ⟨_, ha, rd⟩
    · rw [List.getElem?_set_ne z] at h
      obtain ⟨v, h1, h2⟩ := n.dat j x h
      exact ⟨v, h1, h2.mono eg⟩
  · obtain ⟨ne, h'⟩ := oth _ _ _ h
    obtain ⟨b, hb, g2, o2, h2, r2⟩ := n.own j p l h'
    refine ⟨b, hb, ?_, o2, h2, r2.mono eg⟩
    rw [upd_ne]
    · exact g2
    · intro z
      subst z
      exact ne (n.sep j i _ _ _ _ _ h' e hb ha)
  · rw [upd_ne]
    · exact gb
    · intro z
      subst z
      exact nb ⟨i, _, k, e, ha⟩
  · by_cases z : i = j
    · subst z
      rw [e] at h; cases h
    · exact ⟨l, by rw [List.getElem?_set_ne z]; exact h⟩
theorem sd_var {i : Nat} : SD K E (tVar i) (eVar i) := fun s σ G H n Q q => by
  unfold eVar at q
  split at q
  · rename_i x e
    obtain ⟨v, h1, h2⟩ := n.dat i x e
    exact ⟨v, h1, q v G H (After.refl n) h2⟩
  · rename_i k e
    obtain ⟨a, G', h1, h2, h3⟩ := n.freeze e
    exact ⟨_, h1, q _ G' H h2 h3⟩
  · exact q.elim
@[simp] def eC (d : Dat) (s : Env) : Out Dat := .ok d s
theorem sd_c {v : V} {d : Dat} (h : ∀ G, Rep K G d v) : SD K E (tC v) (eC d) := fun s σ G H n Q q => q v G H (After.refl n) (h G)
theorem sd_int {i : Int} : SD K E (tC (.int i)) (eC (.int i)) := sd_c fun _ => rfl
theorem sd_str {x : Str} : SD K E (tC (.str x)) (eC (.str x)) := sd_c fun _ => rfl
theorem sd_bl {x : Bool} : SD K E (tC (.bl x)) (eC (.bl x)) := sd_c fun _ => rfl
theorem sd_non : SD K E (tC .non) (eC .non) := sd_c fun _ => rfl
theorem sd_ref {a : Addr} : SD K E (tC (.ref a)) (eC (.obj (.ref a))) := sd_c fun _ => rfl
theorem sd_ty {n : String} : SD K E (tC (.ty n)) (eC (.obj (.ty n))) := sd_c fun _ => rfl
/-! operators -/
@[simp] def eOp (f : Dat → Dat → Option Dat) (ea eb : EvD) (s : Env) : Out Dat := (ea s).bind fun a s1 => (eb s1).bind fun b s2 => lift (f a b) s2
theorem sd_op {r : R2} {f : Dat → Dat → Option Dat} (hr : OpS K r f) (ha : SD K E ta ea) (hb : SD K E tb eb) : SD K E (tOp r ta tb) (eOp f ea eb) := fun s σ G H n Q q =>
  ha s σ G H n _ (q.seq fun a s1 x G1 H1 _ a1 rx q1 => hb s1 σ G1 H1 a1.now _ (q1.seq fun b s2 y G2 H2 _ a2 ry q2 => by
    obtain ⟨d, e, q3⟩ := q2.lift
    exact hr a b d e G2 H2 x y a2.now.inn ct_raises (rx.mono a2.mv.g) ry Q fun d' v G3 H3 e3 st rd => by
      subst e3
      exact q3 v G3 H3 (After.step a2.now st) rd))
@[simp] def eUn (f : Dat → Option Dat) (ea : EvD) (s : Env) : Out Dat := (ea s).bind fun a s1 => lift (f a) s1
theorem sd_un {r : V → Hp → VK → Prop} {f : Dat → Option Dat} (hr : UnS K r f) (ha : SD K E ta ea) : SD K E (tUn r ta) (eUn f ea) := fun s σ G H n Q q =>
  ha s σ G H n _ (q.seq fun a s1 x G1 H1 _ a1 rx q1 => by
    obtain ⟨d, e, q3⟩ := q1.lift
    exact hr a d e G1 H1 x a1.now.inn ct_raises rx Q fun d' v G3 H3 e3 st rd => by
      subst e3
      exact q3 v G3 H3 (After.step a1.now st) rd)
/-! arguments -/
@[simp] def eNil (s : Env) : Out (List Dat) := .ok [] s
@[simp] def eCons (ea : EvD) (er : EvA) (s : Env) : Out (List Dat) := (ea s).bind fun a s1 => (er s1).bind fun r s2 => .ok (a :: r) s2
theorem sa_nil : SA K E tNil eNil := fun s σ G H n Q q => q [] G H (After.refl n) rfl
theorem sa_cons (ha : SD K E ta ea) (hr : SA K E tr er) : SA K E (tCons ta tr) (eCons ea er) := fun s σ G H n Q q =>
  ha s σ G H n _ (q.seq fun a s1 x G1 H1 _ a1 rx q1 => hr s1 σ G1 H1 a1.now _ (q1.seq fun r s2 y G2 H2 _ a2 ry q2 => q2 (x :: y) G2 H2 (After.refl a2.now) ⟨x, y, rfl, rx.mono a2.mv.g, ry⟩))
/-! built-in functions by values -/
@[simp] def eCB (f : List Dat → Option Dat) (er : EvA) (s : Env) : Out Dat := (er s).bind fun a s1 => lift (f a) s1
theorem sd_cb {r : List V → Hp → VK → Prop} {f : List Dat → Option Dat} (hr : CbS K r f) (ha : SA K E tr er) : SD K E (tCB r tr) (eCB f er) := fun s σ G H n Q q =>
  ha s σ G H n _ (q.seq fun a s1 x G1 H1 _ a1 rx q1 => by
    obtain ⟨d, e, q3⟩ := q1.lift
    exact hr a d e G1 H1 x a1.now.inn ct_raises rx Q fun d' v G3 H3 e3 st rd => by
      subst e3
      exact q3 v G3 H3 (After.step a1.now st) rd)
theorem Mv.fresh {O : Addr → Prop} {G H G1 H1 : Hp} {p : Addr} (m : Mv O G H G1 H1) (hp : H1 p = none) : H p = none := by
  cases q : H p with
  | none => rfl
  | some o => exact absurd hp (m.e p (by rw [q]; exact fun z => nomatch z))
end
end DV

set_option autoImplicit false
set_option linter.all false
set_option maxRecDepth 100000
set_option maxHeartbeats 1000000
namespace DV
open PySem L2
section
variable {K : PySem.W.Frag} {E : XK} {te ta tb tc to : TE} {ea eb ec : EvD} {eo : EvO} {tt tu : TT} {et eu : EvT} {tr tk : TA} {er ek : EvA} {s s1 s' : Env} {σ : L2.St} {G H G1 H1 : Hp}
/-! a new cell taken for good -/
theorem Now.good (n : Now K s σ G H) {a : Addr} {k : Cel} (h : Hold K G H a k) (no : ¬ OwnA s σ a) : ∃ G', Ex G G' ∧ Now K s σ G' H ∧ (∀ b, b ≠ a → G b = none → G' b = none) ∧ Rep K G' k.dat (.ref a) := by
  obtain ⟨g, o, ho, r⟩ := h
  have eg : Ex G (upd G a o) := Ex.new g
  have ei : Ex (upd G a o) H := fun b u q => by
    by_cases z : b = a
    · rw [z, upd_same] at q; cases q; rw [z]; exact ho
    · rw [upd_ne z] at q; exact n.ex b u q
  refine ⟨upd G a o, eg, ⟨ei, n.len, fun i x e => let ⟨v, h1, h2⟩ := n.dat i x e; ⟨v, h1, h2.mono eg⟩, fun i p l e => ?_, n.sep⟩, fun b nb gb => by rw [upd_ne nb]; exact gb, (r.mono eg).good upd_same⟩
  obtain ⟨b, hb, g2, o2, h2, r2⟩ := n.own i p l e
  refine ⟨b, hb, ?_, o2, h2, r2.mono eg⟩
  rw [upd_ne]
  · exact g2
  · intro z
    subst z
    exact no ⟨i, p, l, e, hb⟩
theorem After.good (n : Now K s σ G H) (a1 : After K σ s G H s1 G1 H1) {a : Addr} {k : Cel} (ha : H a = none) (hd : Hold K G1 H1 a k) : ∃ G2, After K σ s G H s1 G2 H1 ∧ Rep K G2 k.dat (.ref a) := by
  have no : ¬ OwnA s1 σ a := fun z => n.notOwn ha (a1.lt.ownA z)
  obtain ⟨G2, e, n2, hb, r⟩ := a1.now.good hd no
  exact ⟨G2, ⟨n2, ⟨a1.mv.g.trans e, n2.ex, a1.mv.h, fun b nb h1 h2 h3 => hb b (fun z => h1 (by rw [z]; exact ha)) (a1.mv.d b nb h1 h2 h3), a1.mv.e⟩, a1.lt⟩, r⟩
@[simp] def eFz (eo : EvO) (s : Env) : Out Dat := (eo s).bind fun k s1 => .ok k.dat s1
theorem sd_fz (h : SO K E te eo) : SD K E te (eFz eo) := fun s σ G H n Q q => by
  refine h s σ G H n _ ?_
  unfold eFz at q
  cases e : eo s with
  | ok k s1 =>
    rw [e] at q
    rintro v G1 H1 a1 ⟨a, rfl, ha, hd⟩
    obtain ⟨G2, a2, r⟩ := a1.good n ha hd
    exact q _ G2 H1 a2 r
  | exc x s1 => rw [e] at q; exact q
  | bad => rw [e] at q; exact q
/-! displays -/
@[simp] def eTup (er : EvA) (s : Env) : Out Dat := (er s).bind fun ds s1 => if ds.length ≤ 100000 then .ok (.tup ds) s1 else .bad
theorem sd_tup (h : SA K E tr er) : SD K E (tTup tr) (eTup er) := fun s σ G H n Q q =>
  h s σ G H n _ (q.seq fun ds s1 vs G1 H1 _ a1 rx q1 => by
    split at q1
    · rename_i hl
      refine ⟨Nat.le_trans (by rw [rx.len]; exact hl) (by decide), fun p hp => ?_⟩
      have st := Step.new a1.now.inn (o := .tup vs) hp
      exact q1 _ _ _ (After.step a1.now st) ⟨p, vs, rfl, upd_same, rx.mono st.g⟩
    · exact q1.elim)
/-- a new object beside -/
theorem Mv.aside {O : Addr → Prop} (e : Ex G H) {p : Addr} {o : HO} (hp : H p = none) : Mv O G H G (upd H p o) :=
  ⟨Ex.refl _, e.out (e.none_of hp), fun a u _ z => (Ex.new hp) a u z, fun _ _ _ _ g => g, fun a z => by
    by_cases q : a = p
    · rw [q, upd_same]; exact fun w => nomatch w
    · rw [upd_ne q]; exact z⟩
@[simp] def eLst (er : EvA) (s : Env) : Out Cel := (er s).bind fun ds s1 => if ds.length ≤ 100000 then .ok (.lst ds) s1 else .bad
theorem so_lst (h : SA K E tr er) : SO K E (tLst tr) (eLst er) := fun s σ G H n Q q => by
  refine h s σ G H n _ ?_
  unfold eLst at q
  cases e : er s with
  | ok ds s1 =>
    rw [e] at q
    intro vs G1 H1 a1 rx
    simp only [Out.bind_ok] at q
    split at q
    · rename_i hl
      refine ⟨Nat.le_trans (by rw [rx.len]; exact hl) (by decide), fun p hp => ?_⟩
      have m : Mv nOne G1 H1 G1 (upd H1 p (.lst vs)) := Mv.aside a1.now.ex hp
      exact q _ _ _ (a1.trans (After.mvN a1.now m)) ⟨p, rfl, a1.mv.fresh hp, a1.now.ex.none_of hp, _, upd_same, vs, rfl, rx⟩
    · exact q.elim
  | exc x s1 => rw [e] at q; exact q
  | bad => rw [e] at q; exact q
/-- built-in functions that make a list -/
@[simp] def eCBN (f : List Dat → Option (List Dat)) (er : EvA) (s : Env) : Out Cel := (er s).bind fun as s1 => match f as with
  | some ds => .ok (.lst ds) s1
  | none => .bad
theorem so_cb {r : List V → Hp → VK → Prop} {f : List Dat → Option (List Dat)} (hr : CbN K r f) (h : SA K E tr er) : SO K E (tCB r tr) (eCBN f er) := fun s σ G H n Q q => by
  refine h s σ G H n _ ?_
  unfold eCBN at q
  cases e : er s with
  | ok as s1 =>
    rw [e] at q
    intro vs G1 H1 a1 rx
    simp only [Out.bind_ok] at q
    cases e2 : f as with
    | some ds =>
      rw [e2] at q
      refine hr as ds e2 G1 H1 vs a1.now.ex rx Q fun p ys G2 H2 hp st gp hx rs => ?_
      exact q _ _ _ (a1.trans (After.step a1.now st)) ⟨p, rfl, a1.mv.fresh hp, gp, _, hx, ys, rfl, rs⟩
    | none => rw [e2] at q; exact q.elim
  | exc x s1 => rw [e] at q; exact q
  | bad => rw [e] at q; exact q
/-! tests -/
@[simp] def isB : Dat → Option Bool
  | .bl b => some b
  | _ => none
@[simp] def eTs (ea : EvD) (s : Env) : Out Bool := (ea s).bind fun d s1 => lift (isB d) s1
theorem isB_ok {d : Dat} {b : Bool} (h : isB d = some b) : d = .bl b := by
  cases d <;> first | (simp only [isB] at h; cases h; rfl) | (cases h)
theorem st_test (h : SD K E te ea) : STt K E (tTest te) (eTs ea) := fun s σ G H n Q q =>
  h s σ G H n _ (q.seq fun d s1 v G1 H1 _ a1 rx q1 => by
    obtain ⟨b, e, q2⟩ := q1.lift
    rw [isB_ok e] at rx
    exact ⟨b, rx, q2 b G1 H1 (After.refl a1.now) rfl⟩)
theorem st_B (h : SD K E te ea) : STt K E (tB te) (eTs ea) := fun s σ G H n Q q =>
  h s σ G H n _ (q.seq fun d s1 v G1 H1 _ a1 rx q1 => by
    obtain ⟨b, e, q2⟩ := q1.lift
    rw [isB_ok e] at rx
    exact ⟨b, rx, q2 b G1 H1 (After.refl a1.now) rfl⟩)
theorem st_yes : STt K E tYes (fun s => .ok true s) := fun s σ G H n Q q => q true G H (After.refl n) rfl
@[simp] def eAnd (et eu : EvT) (s : Env) : Out Bool := (et s).bind fun b s1 => if b = true then eu s1 else .ok false s1
@[simp] def eOr (et eu : EvT) (s : Env) : Out Bool := (et s).bind fun b s1 => if b = true then .ok true s1 else eu s1
@[simp] def eNot (et : EvT) (s : Env) : Out Bool := (et s).bind fun b s1 => .ok (!b) s1
theorem st_and (h1 : STt K E tt et) (h2 : STt K E tu eu) : STt K E (tAnd tt tu) (eAnd et eu) := fun s σ G H n Q q =>
  h1 s σ G H n _ (q.seq fun b s1 c G1 H1 _ a1 e q1 => by
    subst e
    cases b with
    | true => exact h2 s1 σ G1 H1 a1.now Q q1
    | false => exact q1 false G1 H1 (After.refl a1.now) rfl)
theorem st_or (h1 : STt K E tt et) (h2 : STt K E tu eu) : STt K E (tOr tt tu) (eOr et eu) := fun s σ G H n Q q =>
  h1 s σ G H n _ (q.seq fun b s1 c G1 H1 _ a1 e q1 => by
    subst e
    cases b with
    | true => exact q1 true G1 H1 (After.refl a1.now) rfl
    | false => exact h2 s1 σ G1 H1 a1.now Q q1)
theorem st_not (h1 : STt K E tt et) : STt K E (tNot tt) (eNot et) := fun s σ G H n Q q =>
  h1 s σ G H n _ (q.seq fun b s1 c G1 H1 _ a1 e q1 => by
    subst e
    exact q1 _ G1 H1 (After.refl a1.now) rfl)
@[simp] def eAndV (ea eb : EvD) (s : Env) : Out Dat := (ea s).bind fun d s1 => (lift (isB d) s1).bind fun b s1 => if b = true then eb s1 else .ok (.bl false) s1
@[simp] def eOrV (ea eb : EvD) (s : Env) : Out Dat := (ea s).bind fun d s1 => (lift (isB d) s1).bind fun b s1 => if b = true then .ok (.bl true) s1 else eb s1
@[simp] def eNotV (ea : EvD) (s : Env) : Out Dat := (ea s).bind fun d s1 => (lift (isB d) s1).bind fun b s1 => .ok (.bl (!b)) s1
theorem sd_andV (h1 : SD K E ta ea) (h2 : SD K E tb eb) : SD K E (tAndV ta tb) (eAndV ea eb) := fun s σ G H n Q q =>
  h1 s σ G H n _ (q.seq fun d s1 v G1 H1 _ a1 rx q1 => by
    cases e : isB d with
    | none => rw [e] at q1; exact q1.elim
    | some b =>
      rw [e] at q1
      rw [isB_ok e] at rx
      refine ⟨b, rx, ?_⟩
      cases b with
      | true => exact h2 s1 σ G1 H1 a1.now Q q1
      | false => exact q1 (.bl false) G1 H1 (After.refl a1.now) rfl)
theorem sd_orV (h1 : SD K E ta ea) (h2 : SD K E tb eb) : SD K E (tOrV ta tb) (eOrV ea eb) := fun s σ G H n Q q =>
  h1 s σ G H n _ (q.seq fun d s1 v G1 H1 _ a1 rx q1 => by
    cases e : isB d with
    | none => rw [e] at q1; exact q1.elim
    | some b =>
      rw [e] at q1
      rw [isB_ok e] at rx
      refine ⟨b, rx, ?_⟩
      cases b with
      | true => exact q1 (.bl true) G1 H1 (After.refl a1.now) rfl
      | false => exact h2 s1 σ G1 H1 a1.now Q q1)
theorem sd_notV (h1 : SD K E ta ea) : SD K E (tNotV ta) (eNotV ea) := fun s σ G H n Q q =>
  h1 s σ G H n _ (q.seq fun d s1 v G1 H1 _ a1 rx q1 => by
    cases e : isB d with
    | none => rw [e] at q1; exact q1.elim
    | some b =>
      rw [e] at q1
      rw [isB_ok e] at rx
      exact ⟨b, rx, q1 (.bl (!b)) G1 H1 (After.refl a1.now) rfl⟩)
@[simp] def eIf (et : EvT) (ea eb : EvD) (s : Env) : Out Dat := (et s).bind fun b s1 => if b = true then ea s1 else eb s1
theorem sd_if (h : STt K E tt et) (h1 : SD K E ta ea) (h2 : SD K E tb eb) : SD K E (tIf tt ta tb) (eIf et ea eb) := fun s σ G H n Q q =>
  h s σ G H n _ (q.seq fun b s1 c G1 H1 _ a1 e q1 => by
    subst e
    cases b with
    | true => exact h1 s1 σ G1 H1 a1.now Q q1
    | false => exact h2 s1 σ G1 H1 a1.now Q q1)
/-! all cells seen as data, for an answer that holds none of them -/
@[simp] def frzO : Option Ow → Option Ow
  | some (.c _ k) => some (.d k.dat)
  | x => x
@[simp] def frzE (s : Env) : Env := s.map frzO
theorem frz_get {i : Nat} {x : Dat} (h : (frzE s)[i]? = some (some (.d x))) : s[i]? = some (some (.d x)) ∨ ∃ p k, s[i]? = some (some (.c p k)) ∧ x = k.dat := by
  unfold frzE at h
  rw [List.getElem?_map] at h
  cases e : s[i]? with
  | none => rw [e] at h; cases h
  | some o =>
    rw [e] at h
    cases o with
    | none => cases h
    | some o =>
      cases o with
      | d y => cases h; exact .inl rfl
      | c p k => cases h; exact .inr ⟨p, k, rfl, rfl⟩
theorem frz_own {i : Nat} {p : Bool} {k : Cel} (h : (frzE s)[i]? = some (some (.c p k))) : False := by
  unfold frzE at h
  rw [List.getElem?_map] at h
  cases e : s[i]? with
  | none => rw [e] at h; cases h
  | some o =>
    rw [e] at h
    cases o with
    | none => cases h
    | some o => cases o <;> cases h
open Classical in
noncomputable def AllG (s : Env) (σ : L2.St) (G H : Hp) : Hp := fun a => if OwnA s σ a then H a else G a
theorem AllG_in {a : Addr} (h : OwnA s σ a) : AllG s σ G H a = H a := by unfold AllG; rw [if_pos h]
theorem AllG_out {a : Addr} (h : ¬ OwnA s σ a) : AllG s σ G H a = G a := by unfold AllG; rw [if_neg h]
theorem Now.all (n : Now K s σ G H) : Ex G (AllG s σ G H) ∧ Now K (frzE s) σ (AllG s σ G H) H := by
  have e1 : Ex G (AllG s σ G H) := fun a o e => by
    by_cases z : OwnA s σ a
    · rw [AllG_in z]; exact n.ex a o e
    · rw [AllG_out z]; exact e
  have e2 : Ex (AllG s σ G H) H := fun a o e => by
    by_cases z : OwnA s σ a
    · rw [AllG_in z] at e; exact e
    · rw [AllG_out z] at e; exact n.ex a o e
  refine ⟨e1, e2, by unfold frzE; rw [List.length_map]; exact n.len, fun i x h => ?_, fun i p k h => (frz_own h).elim, fun i j p q k l a h => (frz_own h).elim⟩
  rcases frz_get h with hz | ⟨p, k, hz, rfl⟩
  · obtain ⟨v, h1, h2⟩ := n.dat i x hz
    exact ⟨v, h1, h2.mono e1⟩
  · obtain ⟨a, h1, g, o, ho, r⟩ := n.own i p k hz
    exact ⟨_, h1, (r.mono e1).good (by rw [AllG_in ⟨i, p, k, hz, h1⟩]; exact ho)⟩
theorem After.thaw {s' : Env} {G' H' : Hp} (n : Now K s σ G H) (a : After K σ (frzE s) (AllG s σ G H) H s' G' H') : After K σ s G H s G H' := by
  have nn : ∀ b, ¬ OwnA (frzE s) σ b := fun b ⟨i, p, k, h, _⟩ => frz_own h
  have hh : ∀ b o, H b = some o → H' b = some o := fun b o => a.mv.h b o (nn b)
  exact ⟨⟨fun b o e => hh b o (n.ex b o e), n.len, n.dat, fun i p k e => let ⟨b, h1, g, o, ho, r⟩ := n.own i p k e; ⟨b, h1, g, o, hh b o ho, r⟩, n.sep⟩, ⟨Ex.refl _, fun b o e => hh b o (n.ex b o e), fun b o _ => hh b o, fun _ _ _ _ g => g, a.mv.e⟩, Lt.refl s⟩
@[simp] def eLo (ea : EvD) (s : Env) : Out Dat := match ea (frzE s) with
  | .ok d _ => if loose d = true then .ok d s else .bad
  | _ => .bad
theorem sd_lo (h : SD K E te ea) : SD K E te (eLo ea) := fun s σ G H n Q q => by
  refine h (frzE s) σ _ H n.all.2 Q ?_
  unfold eLo at q
  cases e : ea (frzE s) with
  | ok d s' =>
    rw [e] at q
    intro v G' H' a r
    simp only at q
    split at q
    · rename_i hl
      exact q v G H' (a.thaw n) (loose_rep hl r)
    · exact q.elim
  | exc x s' => rw [e] at q; exact q.elim
  | bad => rw [e] at q; exact q.elim
/-- first so, else as it is -/
@[simp] def eLoT (et : EvT) (s : Env) : Out Bool := match et (frzE s) with
  | .ok b _ => .ok b s
  | _ => et s
theorem st_lo (h : STt K E tt et) : STt K E tt (eLoT et) := fun s σ G H n Q q => by
  unfold eLoT at q
  cases e : et (frzE s) with
  | ok b s' =>
    rw [e] at q
    refine h (frzE s) σ _ H n.all.2 Q ?_
    rw [e]
    intro c G' H' a r
    exact q c G H' (a.thaw n) r
  | exc x s' => rw [e] at q; exact h s σ G H n Q q
  | bad => rw [e] at q; exact h s σ G H n Q q
/-! an element of a list of one's own -/
theorem Now.val (n : Now K s σ G H) {i : Nat} {o : Ow} (e : s[i]? = some (some o)) : ∃ v, σ[i]? = some (some v) := by
  cases o with
  | d x => obtain ⟨v, h, _⟩ := n.dat i x e; exact ⟨v, h⟩
  | c p k => obtain ⟨a, h, _⟩ := n.own i p k e; exact ⟨_, h⟩
@[simp] def eHas (i : Nat) {α : Type} (f : Env → Out α) (s : Env) : Out α := match s[i]? with
  | some (some _) => f s
  | _ => .bad
@[simp] def eIxV (f : Dat → Dat → Option Dat) (i : Nat) (eb : EvD) (s : Env) : Out Dat := eHas i (fun s => (eb s).bind fun b s1 => match s1[i]? with
  | some (some (.c _ (.lst ds))) => match b with
    | .int z => lift (L2.atI ds z) s1
    | _ => .bad
  | some (some (.d a)) => lift (f a b) s1
  | _ => .bad) s
theorem sd_ixV {f : Dat → Dat → Option Dat} {i : Nat} (hf : OpS K (rIx K) f) (h : SD K E tb eb) : SD K E (tOp (rIx K) (tVar i) tb) (eIxV f i eb) := fun s σ G H n Q q => by
  unfold eIxV eHas at q
  split at q
  · rename_i o e
    obtain ⟨v, hv⟩ := n.val e
    refine ⟨v, hv, h s σ G H n _ (q.seq fun b s1 y G1 H1 _ a1 ry q1 => ?_)⟩
    split at q1
    · rename_i ds e
      obtain ⟨a, ha, g, o, ho, xs, rfl, rs⟩ := a1.now.own i _ _ e
      rw [hv] at ha
      cases ha
      split at q1
      · rename_i z _
        obtain ⟨d, e1, q2⟩ := q1.lift
        obtain ⟨w, e2, e3⟩ := rs.atI e1
        exact .inl ⟨a, xs, z, w, rfl, ry, SqL.of ho, e2, q2 w G1 H1 (After.refl a1.now) e3⟩
      · exact q1.elim
    · rename_i x e
      obtain ⟨v', h1, h2⟩ := a1.now.dat i x e
      rw [hv] at h1
      cases h1
      obtain ⟨d, e1, q2⟩ := q1.lift
      exact hf x b d e1 G1 H1 v y a1.now.inn ct_raises h2 ry Q fun d' w G3 H3 e3 st rd => by
        subst e3
        exact q2 w G3 H3 (After.step a1.now st) rd
    · exact q1.elim
  · exact q.elim
end
end DV

set_option autoImplicit false
set_option linter.all false
set_option maxRecDepth 100000
set_option maxHeartbeats 1000000
/-! Calls, statements. -/
namespace DV
open PySem L2

/-! ### answers: data, or a new cell -/
inductive RV where
  | d (x : Dat) | c (k : Cel)
  /-- a new tuple whose last item is a new list -/
  | t (pre es : List Dat)
@[simp] def RV.dat : RV → Dat
  | .d x => x
  | .c k => k.dat
  | .t pre es => .tup (pre ++ [.lst es])
def HoldT (K : PySem.W.Frag) (G' H' : Hp) (a b : Addr) (pre es : List Dat) : Prop := ∃ vs xs, G' a = none ∧ G' b = none ∧ a ≠ b ∧ H' a = some (.tup (vs ++ [.ref b])) ∧ H' b = some (.lst xs) ∧ Reps K G' pre vs ∧ Reps K G' es xs
def RepRV (K : PySem.W.Frag) (H0 G' H' : Hp) : RV → V → Prop
  | .d x, v => Rep K G' x v
  | .c k, v => ∃ a, v = .ref a ∧ H0 a = none ∧ Hold K G' H' a k
  | .t pre es, v => ∃ a b, v = .ref a ∧ H0 a = none ∧ H0 b = none ∧ HoldT K G' H' a b pre es
theorem After.goodT {K : PySem.W.Frag} {σ : L2.St} {s s1 : Env} {G H G1 H1 : Hp} (n : Now K s σ G H) (a1 : After K σ s G H s1 G1 H1) {a b : Addr} {pre es : List Dat} (ha : H a = none) (hb : H b = none) (hd : HoldT K G1 H1 a b pre es) : ∃ G2, After K σ s G H s1 G2 H1 ∧ Rep K G2 (.tup (pre ++ [.lst es])) (.ref a) ∧ (∀ c, c ≠ a → c ≠ b → G1 c = none → G2 c = none) ∧ Ex G1 G2 := by
  obtain ⟨vs, xs, ga, gb, ne, h1, h2, r1, r2⟩ := hd
  have noa : ¬ OwnA s1 σ a := fun z => n.notOwn ha (a1.lt.ownA z)
  have nob : ¬ OwnA s1 σ b := fun z => n.notOwn hb (a1.lt.ownA z)
  have e1 : Ex G1 (upd G1 b (.lst xs)) := Ex.new gb
  have ga1 : upd G1 b (.lst xs) a = none := by rw [upd_ne ne]; exact ga
  have e2 : Ex (upd G1 b (.lst xs)) (upd (upd G1 b (.lst xs)) a (.tup (vs ++ [.ref b]))) := Ex.new ga1
  have e12 := e1.trans e2
  have ei : Ex (upd (upd G1 b (.lst xs)) a (.tup (vs ++ [.ref b]))) H1 := fun c u q => by
    by_cases z : c = a
    · rw [z, upd_same] at q; cases q; rw [z]; exact h1
    · rw [upd_ne z] at q
      by_cases z2 : c = b
      · rw [z2, upd_same] at q; cases q; rw [z2]; exact h2
      · rw [upd_ne z2] at q; exact a1.now.ex c u q
  have off : ∀ c, c ≠ a → c ≠ b → G1 c = none → upd (upd G1 b (.lst xs)) a (.tup (vs ++ [.ref b])) c = none := fun c n1 n2 g => by rw [upd_ne n1, upd_ne n2]; exact g
  refine ⟨upd (upd G1 b (.lst xs)) a (.tup (vs ++ [.ref b])), ⟨⟨ei, a1.now.len, fun i x e => let ⟨v, q1, q2⟩ := a1.now.dat i x e; ⟨v, q1, q2.mono e12⟩, fun i p l e => ?_, a1.now.sep⟩, ⟨a1.mv.g.trans e12, ei, a1.mv.h, fun c nb q1 q2 q3 => off c (fun z => q1 (by rw [z]; exact ha)) (fun z => q1 (by rw [z]; exact hb)) (a1.mv.d c nb q1 q2 q3), a1.mv.e⟩, a1.lt⟩, ⟨a, vs ++ [.ref b], rfl, upd_same, (r1.mono e12).app (Reps.one ⟨b, xs, rfl, SqL.of (e2 _ _ upd_same), r2.mono e12⟩)⟩, off, e12⟩
  obtain ⟨c, hc, g2, o2, q2, r2⟩ := a1.now.own i p l e
  exact ⟨c, hc, off c (fun z => noa ⟨i, p, l, e, by rw [← z]; exact hc⟩) (fun z => nob ⟨i, p, l, e, by rw [← z]; exact hc⟩) g2, o2, q2, r2.mono e12⟩
abbrev EvV := Env → Out RV
def SV (K : PySem.W.Frag) (E : XK) (te : TE) (ev : EvV) : Prop := ∀ s σ G H, Now K s σ G H → ∀ Q : VK, Gets K E σ s G H (fun G' H' r v => RepRV K H G' H' r v) (ev s) Q → te σ H Q
@[simp] def eDV (ea : EvD) (s : Env) : Out RV := (ea s).bind fun d s1 => .ok (.d d) s1
@[simp] def eOV (eo : EvO) (s : Env) : Out RV := (eo s).bind fun k s1 => .ok (.c k) s1
@[simp] def eVD (ev : EvV) (s : Env) : Out Dat := (ev s).bind fun r s1 => .ok r.dat s1
section
variable {K : PySem.W.Frag} {E : XK} {te ta tb to : TE} {ea eb : EvD} {eo : EvO} {ev : EvV} {tt : TT} {et : EvT} {tr tk : TA} {er ek : EvA} {s s1 s' : Env} {σ : L2.St} {G H G1 H1 G2 H2 : Hp}
theorem sv_sd (h : SD K E te ea) : SV K E te (eDV ea) := fun s σ G H n Q q => by
  refine h s σ G H n _ ?_
  unfold eDV at q
  cases e : ea s with
  | ok k s1 => rw [e] at q; exact fun v G1 H1 a1 rx => q v G1 H1 a1 rx
  | exc x s1 => rw [e] at q; exact q
  | bad => rw [e] at q; exact q
theorem sv_so (h : SO K E te eo) : SV K E te (eOV eo) := fun s σ G H n Q q => by
  refine h s σ G H n _ ?_
  unfold eOV at q
  cases e : eo s with
  | ok k s1 => rw [e] at q; exact fun v G1 H1 a1 rx => q v G1 H1 a1 rx
  | exc x s1 => rw [e] at q; exact q
  | bad => rw [e] at q; exact q
theorem sd_sv (h : SV K E te ev) : SD K E te (eVD ev) := fun s σ G H n Q q => by
  refine h s σ G H n _ ?_
  unfold eVD at q
  cases e : ev s with
  | ok r s1 =>
    rw [e] at q
    intro v G1 H1 a1 rx
    cases r with
    | d x => exact q v G1 H1 a1 rx
    | c k =>
      obtain ⟨a, rfl, ha, hd⟩ := rx
      obtain ⟨G2, a2, r⟩ := a1.good n ha hd
      exact q _ G2 H1 a2 r
    | t pre es =>
      obtain ⟨a, b, rfl, ha, hb, hd⟩ := rx
      obtain ⟨G2, a2, r, _⟩ := a1.goodT n ha hb hd
      exact q _ G2 H1 a2 r
  | exc x s1 => rw [e] at q; exact q
  | bad => rw [e] at q; exact q
/-! ### a cell gets another content -/
theorem lt_of_some {α : Type} {l : List α} {i : Nat} {x : α} (e : l[i]? = some x) : i < l.length := by
  rcases Nat.lt_or_ge i l.length with q | q
  · exact q
  · rw [List.getElem?_eq_none q] at e; cases e
theorem set_get {s : Env} {i j : Nat} {o : Option Ow} {x : Option Ow} (hi : i < s.length) (h : (s.set i o)[j]? = some x) : (i = j ∧ x = o) ∨ (i ≠ j ∧ s[j]? = some x) := by
  by_cases z : i = j
  · subst z
    rw [List.getElem?_set_self hi] at h
    cases h
    exact .inl ⟨rfl, rfl⟩
  · rw [List.getElem?_set_ne z] at h
    exact .inr ⟨z, h⟩
theorem Now.cell (n : Now K s σ G H) {i : Nat} {p : Bool} {k k2 : Cel} {a : Addr} (e : s[i]? = some (some (.c p k))) (ha : σ[i]? = some (some (.ref a))) (m : Mv (fun b => b = a) G H G2 H2) (h : Hold K G2 H2 a k2) : After K σ s G H (s.set i (some (.c p k2))) G2 H2 := by
  have hi := lt_of_some e
  have oa : OwnA s σ a := ⟨i, p, k, e, ha⟩
  have back : ∀ (j : Nat) (q : Bool) (l : Cel), (s.set i (some (.c p k2)))[j]? = some (some (.c q l)) → ∃ l0, s[j]? = some (some (.c q l0)) := fun j q l h => by
    rcases set_get hi h with ⟨rfl, e2⟩ | ⟨_, e2⟩
    · cases e2; exact ⟨k, e⟩
    · exact ⟨l, e2⟩
  refine ⟨⟨m.i, by rw [List.length_set]; exact n.len, fun j x h => ?_, fun j q l h' => ?_, fun j1 j2 q1 q2 l1 l2 b h1 h2 h3 h4 => ?_⟩, m.weak fun b z => by subst z; exact oa, ⟨List.length_set, back, fun j l h' => ?_⟩⟩
  · rcases set_get hi h with ⟨_, e2⟩ | ⟨_, e2⟩
    · cases e2
    · obtain ⟨v, h1, h2⟩ := n.dat j x e2
      exact ⟨v, h1, h2.mono m.g⟩
  · rcases set_get hi h' with ⟨rfl, e2⟩ | ⟨ne, e2⟩
    · cases e2; exact ⟨a, ha, h⟩
    · obtain ⟨b, hb, hh⟩ := n.own j q l e2
      exact ⟨b, hb, hh.mv m fun z => ne (n.sep i j _ _ _ _ b e e2 (by rw [z]; exact ha) hb)⟩
  · obtain ⟨l3, e3⟩ := back _ _ _ h1
    obtain ⟨l4, e4⟩ := back _ _ _ h2
    exact n.sep j1 j2 _ _ _ _ b e3 e4 h3 h4
  · by_cases z : i = j
    · subst z
      rw [e] at h'
      cases h'
      exact ⟨k2, List.getElem?_set_self hi⟩
    · exact ⟨l, by rw [List.getElem?_set_ne z]; exact h'⟩
/-- .. written at its place -/
theorem Now.write (n : Now K s σ G H) {i : Nat} {p : Bool} {k k2 : Cel} {a : Addr} {o : HO} (e : s[i]? = some (some (.c p k))) (ha : σ[i]? = some (some (.ref a))) (h : RepO K G k2 o) : After K σ s G H (s.set i (some (.c p k2))) G (upd H a o) := by
  obtain ⟨b, hb, g, _⟩ := n.own i p k e
  rw [ha] at hb
  cases hb
  refine n.cell e ha ⟨Ex.refl _, n.ex.out g, fun b o' nb h => by rw [upd_ne nb]; exact h, fun _ _ _ _ g => g, fun b z => ?_⟩ ⟨g, o, upd_same, h⟩
  by_cases q : b = a
  · rw [q, upd_same]; exact fun w => nomatch w
  · rw [upd_ne q]; exact z
/-! ### promises -/
inductive FR where
  | ok (r : RV) (k : Option Cel) | exc (x : Exc) (k : Option Cel) | bad
/-- from the caller's cell (if there is one) and data -/
abbrev FT := Option Cel → List Dat → FR
abbrev IoA (io : Option (Addr × Cel)) : Addr → Prop := fun b => ∃ l, io = some (b, l)
def IoEnd (K : PySem.W.Frag) (G2 H2 : Hp) (io : Option (Addr × Cel)) (k : Option Cel) : Prop := ∀ a l, io = some (a, l) → ∃ l', k = some l' ∧ Hold K G2 H2 a l'
def FEnd (K : PySem.W.Frag) (E : XK) (G H : Hp) (io : Option (Addr × Cel)) (r : FR) (Q : VK) : Prop := match r with
  | .ok r k => ∀ v G2 H2, Mv (IoA io) G H G2 H2 → IoEnd K G2 H2 io k → RepRV K H G2 H2 r v → Q v H2
  | .exc x k => ∀ cls dd G2 H2, Mv (IoA io) G H G2 H2 → IoEnd K G2 H2 io k → RepX K G2 H2 x cls dd → E cls dd H2
  | .bad => False
def SpF (K : PySem.W.Frag) (F : FT) : Sp := fun vs H Q E => ∃ (G : Hp) (io : Option (Addr × Cel)) (ds : List Dat) (ws : List V), Ex G H ∧ vs = (io.toList.map fun x => V.ref x.1) ++ ws ∧ Reps K G ds ws ∧ (∀ a k, io = some (a, k) → Hold K G H a k) ∧ FEnd K E G H io (F (io.map (·.2)) ds) Q
/-! ### statements -/
inductive SR where
  | nx (s : Env) | rt (r : RV) (s : Env) | bk (s : Env) | ct (s : Env) | xc (x : Exc) (s : Env) | bad
abbrev EvS := Env → SR
/-- where a def was entered -/
structure Ent where
  F : Hp
  O : Addr → Prop
  G : Hp
  H : Hp
  pin : Nat → Addr → Prop
structure At (e : Ent) (s : Env) (σ : L2.St) (G H : Hp) : Prop where
  fl : Ex e.F G
  mv : Mv e.O e.G e.H G H
  ix : ∀ (i : Nat) (p : Bool) (k : Cel) (a : Addr), s[i]? = some (some (.c p k)) → σ[i]? = some (some (.ref a)) → (p = true ∧ e.O a) ∨ (p = false ∧ e.H a = none)
  pin : ∀ i a, e.pin i a → ∃ k, s[i]? = some (some (.c true k)) ∧ σ[i]? = some (some (.ref a))
theorem At.own {e : Ent} (t : At e s σ G H) (a : Addr) (h : OwnA s σ a) : e.O a ∨ e.H a = none := by
  obtain ⟨i, p, k, h1, h2⟩ := h
  exact (t.ix i p k a h1 h2).imp And.right And.right
theorem Mv.ent {e : Ent} {O : Addr → Prop} (m : Mv e.O e.G e.H G H) (o : ∀ a, O a → e.O a ∨ e.H a = none) (m2 : Mv O G H G2 H2) : Mv e.O e.G e.H G2 H2 := by
  have no : ∀ a, ¬ e.O a → e.H a ≠ none → ¬ O a := fun a n h z => (o a z).elim n h
  refine ⟨m.g.trans m2.g, m2.i, fun a u n h => m2.h a u (no a n (by rw [h]; exact fun z => nomatch z)) (m.h a u n h), fun a n h1 h2 h3 => ?_, fun a h => m2.e a (m.e a h)⟩
  cases q : e.H a with
  | none => exact absurd q h1
  | some u =>
    have ee := m.h a u n q
    exact m2.d a (no a n h1) (by rw [ee]; exact fun z => nomatch z) (fun xs w => h2 xs (by rw [q, ← ee, w])) (m.d a n h1 h2 h3)
theorem At.after {e : Ent} (t : At e s σ G H) (a : After K σ s G H s' G2 H2) : At e s' σ G2 H2 :=
  ⟨t.fl.trans a.mv.g, t.mv.ent t.own a.mv, fun i p k b h1 h2 => let ⟨k0, h0⟩ := a.lt.own i p k h1; t.ix i p k0 b h0 h2, fun i b p => let ⟨k, h1, h2⟩ := t.pin i b p; let ⟨k', h3⟩ := a.lt.pin i k h1; ⟨k', h3, h2⟩⟩
def Wants (K : PySem.W.Frag) (E : XK) (e : Ent) (D : Ends) : SR → Prop
  | .nx s' => ∀ σ' G' H', Now K s' σ' G' H' → At e s' σ' G' H' → D.nx σ' H'
  | .rt r s' => ∀ v σ' G' H', Now K s' σ' G' H' → At e s' σ' G' H' → RepRV K e.H G' H' r v → D.rt v H'
  | .bk s' => ∀ σ' G' H', Now K s' σ' G' H' → At e s' σ' G' H' → D.bk σ' H'
  | .ct s' => ∀ σ' G' H', Now K s' σ' G' H' → At e s' σ' G' H' → D.ct σ' H'
  | .xc x s' => ∀ cls dd σ' G' H', Now K s' σ' G' H' → At e s' σ' G' H' → RepX K G' H' x cls dd → E cls dd H'
  | .bad => False
def SS (K : PySem.W.Frag) (E : XK) (t : TS) (st : EvS) : Prop := ∀ e s σ G H, Now K s σ G H → At e s σ G H → ∀ D, Wants K E e D (st s) → t D σ H
/-- an expression, then .. -/
def SR.of {α : Type} (o : Out α) (f : α → Env → SR) : SR := match o with
  | .ok a s => f a s
  | .exc x s => .xc x s
  | .bad => .bad
@[simp] theorem SR.of_ok {α : Type} (a : α) (s : Env) (f : α → Env → SR) : SR.of (.ok a s) f = f a s := rfl
@[simp] theorem SR.of_exc {α : Type} (x : Exc) (s : Env) (f : α → Env → SR) : SR.of (.exc x s) f = .xc x s := rfl
@[simp] theorem SR.of_bad {α : Type} (f : α → Env → SR) : SR.of .bad f = .bad := rfl
theorem Wants.of {α β : Type} {e : Ent} {D : Ends} {R : Hp → Hp → α → β → Prop} {o : Out α} {f : α → Env → SR} {Q : β → Hp → Prop} (t : At e s σ G H) (h : Wants K E e D (SR.of o f))
    (k : ∀ a s1 v G1 H1, o = .ok a s1 → After K σ s G H s1 G1 H1 → At e s1 σ G1 H1 → R G1 H1 a v → Wants K E e D (f a s1) → Q v H1) : Gets K E σ s G H R o Q := by
  cases o with
  | ok a s1 => exact fun v G1 H1 b r => k a s1 v G1 H1 rfl b (t.after b) r h
  | exc x s1 => exact fun cls dd G1 H1 b r => h cls dd σ G1 H1 b.now (t.after b) r
  | bad => exact h
@[simp] def sNext (s : Env) : SR := .nx s
theorem ss_next : SS K E tNext sNext := fun e s σ G H n t D w => w σ G H n t
theorem ss_break : SS K E tBreak .bk := fun e s σ G H n t D w => w σ G H n t
theorem ss_cont : SS K E tCont .ct := fun e s σ G H n t D w => w σ G H n t
theorem ss_never : SS K E tNever (fun _ => .bad) := fun e s σ G H n t D w => w
@[simp] def sSeq (a b : EvS) (s : Env) : SR := match a s with
  | .nx s1 => b s1
  | r => r
theorem ss_seq {t u : TS} {a b : EvS} (h1 : SS K E t a) (h2 : SS K E u b) : SS K E (tSeq t u) (sSeq a b) := fun e s σ G H n ta D w => by
  refine h1 e s σ G H n ta _ ?_
  unfold sSeq at w
  cases q : a s with
  | nx s1 => rw [q] at w; exact fun σ' G' H' n' t' => h2 e s1 σ' G' H' n' t' D w
  | rt r s1 => rw [q] at w; exact w
  | bk s1 => rw [q] at w; exact w
  | ct s1 => rw [q] at w; exact w
  | xc x s1 => rw [q] at w; exact w
  | bad => rw [q] at w; exact w
@[simp] def sDrop (ea : EvD) (s : Env) : SR := SR.of (ea s) fun _ s1 => .nx s1
theorem ss_drop (h : SD K E te ea) : SS K E (tDrop te) (sDrop ea) := fun e s σ G H n t D w =>
  h s σ G H n _ (w.of t fun a s1 v G1 H1 _ b tb r w1 => w1 σ G1 H1 b.now tb)
@[simp] def sRet (ev : EvV) (s : Env) : SR := SR.of (ev s) fun r s1 => .rt r s1
theorem ss_ret (h : SV K E te ev) : SS K E (tRet te) (sRet ev) := fun e s σ G H n t D w => by
  refine h s σ G H n _ (w.of t fun r s1 v G1 H1 _ b tb rr w1 => w1 v σ G1 H1 b.now tb ?_)
  cases r with
  | d x => exact rr
  | c k =>
    obtain ⟨a, rfl, ha, hd⟩ := rr
    exact ⟨a, rfl, t.mv.fresh ha, hd⟩
  | t pre es =>
    obtain ⟨a, b, rfl, ha, hb, hd⟩ := rr
    exact ⟨a, b, rfl, t.mv.fresh ha, t.mv.fresh hb, hd⟩
/-- return x, x a cell of one's own -/
@[simp] def sRetV (i : Nat) (s : Env) : SR := match s[i]? with
  | some (some (.c false k)) => .rt (.c k) s
  | some (some (.d x)) => .rt (.d x) s
  | _ => .bad
@[simp] def sRetN (s : Env) : SR := .rt (.d .non) s
theorem ss_retN : SS K E tRetN sRetN := fun e s σ G H n t D w => w .non σ G H n t rfl
@[simp] def sIf (et : EvT) (a b : EvS) (s : Env) : SR := SR.of (et s) fun c s1 => if c = true then a s1 else b s1
theorem ss_if {t u : TS} {a b : EvS} (h : STt K E tt et) (h1 : SS K E t a) (h2 : SS K E u b) : SS K E (tIfS tt t u) (sIf et a b) := fun e s σ G H n ta D w =>
  h s σ G H n _ (w.of ta fun c s1 c' G1 H1 _ b' tb r w1 => by
    subst r
    cases c with
    | true => exact h1 e s1 σ G1 H1 b'.now tb D w1
    | false => exact h2 e s1 σ G1 H1 b'.now tb D w1)
/-! targets -/
structure Tgt (K : PySem.W.Frag) (is : List Nat) (σ : L2.St) (s : Env) (G H : Hp) (σ' : L2.St) (s' : Env) (G' H' : Hp) : Prop where
  now : Now K s' σ' G' H'
  mv : Mv (OwnA s σ) G H G' H'
  own : ∀ a, OwnA s' σ' a → OwnA s σ a
  pin : ∀ (i : Nat) (k : Cel), s[i]? = some (some (.c true k)) → (∃ k', s'[i]? = some (some (.c true k'))) ∧ σ'[i]? = σ[i]?
  out : ∀ i, i ∉ is → σ'[i]? = σ[i]?
  len : s'.length = s.length
  ix : ∀ (i : Nat) (p : Bool) (k : Cel), s'[i]? = some (some (.c p k)) → ∃ k0, s[i]? = some (some (.c p k0)) ∧ σ'[i]? = σ[i]?
abbrev EvG := Dat → Env → Out Unit
def GetsT (K : PySem.W.Frag) (E : XK) (is : List Nat) (σ : L2.St) (s : Env) (G H : Hp) (o : Out Unit) (Q : L2.St → Hp → Prop) : Prop := match o with
  | .ok _ s' => ∀ σ' G' H', Tgt K is σ s G H σ' s' G' H' → Q σ' H'
  | .exc x s' => ∀ cls dd σ' G' H', Tgt K is σ s G H σ' s' G' H' → RepX K G' H' x cls dd → E cls dd H'
  | .bad => False
def SG (K : PySem.W.Frag) (E : XK) (is : List Nat) (g : TG) (eg : EvG) : Prop := ∀ s σ G H d v, Now K s σ G H → Rep K G d v → ∀ Q : L2.St → Hp → Prop, GetsT K E is σ s G H (eg d s) Q → g v σ H Q
theorem Tgt.trans {is js : List Nat} {σ1 σ2 : L2.St} {s2 : Env} (a : Tgt K is σ s G H σ1 s1 G1 H1) (b : Tgt K js σ1 s1 G1 H1 σ2 s2 G2 H2) : Tgt K (is ++ js) σ s G H σ2 s2 G2 H2 :=
  ⟨b.now, a.mv.trans (b.mv.weak a.own), fun x z => a.own x (b.own x z), fun i k e => let ⟨⟨k', h1⟩, h2⟩ := a.pin i k e; let ⟨h3, h4⟩ := b.pin i k' h1; ⟨h3, h4.trans h2⟩, fun i hi => by
    rw [List.mem_append, not_or] at hi
    exact (b.out i hi.2).trans (a.out i hi.1), b.len.trans a.len, fun i p k h => by
    obtain ⟨k0, h0, e0⟩ := b.ix i p k h
    obtain ⟨k1, h1, e1⟩ := a.ix i p k0 h0
    exact ⟨k1, h1, e0.trans e1⟩⟩
theorem At.tgt {e : Ent} {is : List Nat} {σ' : L2.St} (t : At e s σ G H) (a : Tgt K is σ s G H σ' s' G2 H2) : At e s' σ' G2 H2 :=
  ⟨t.fl.trans a.mv.g, t.mv.ent t.own a.mv, fun i p k b h1 h2 => let ⟨k0, h0, h3⟩ := a.ix i p k h1; t.ix i p k0 b h0 (h3 ▸ h2), fun i b p => let ⟨k, h1, h2⟩ := t.pin i b p; let ⟨⟨k', h3⟩, h4⟩ := a.pin i k h1; ⟨k', h3, h4.trans h2⟩⟩
theorem At.re {e : Ent} {F : Hp} (t : At ⟨F, e.O, e.G, e.H, e.pin⟩ s σ G H) (h : Ex e.F F) : At e s σ G H := ⟨h.trans t.fl, t.mv, t.ix, t.pin⟩
theorem At.fr {e : Ent} {F : Hp} (t : At e s σ G H) (h : Ex F G) : At ⟨F, e.O, e.G, e.H, e.pin⟩ s σ G H := ⟨h, t.mv, t.ix, t.pin⟩
/-- x = data -/
@[simp] def gN (i : Nat) (d : Dat) (s : Env) : Out Unit := match s[i]? with
  | some (some (.c true _)) => .bad
  | _ => .ok () (s.set i (some (.d d)))
theorem Now.setD (n : Now K s σ G H) {i : Nat} {d : Dat} {v : V} (r : Rep K G d v) (np : ∀ k, s[i]? ≠ some (some (.c true k))) : Tgt K [i] σ s G H (σ.set i (some v)) (s.set i (some (.d d))) G H := by
  have ln : (σ.set i (some v)).length = (s.set i (some (.d d))).length := by rw [List.length_set, List.length_set]; exact n.len
  have back : ∀ (j : Nat) (q : Bool) (l : Cel), (s.set i (some (.d d)))[j]? = some (some (.c q l)) → i ≠ j ∧ s[j]? = some (some (.c q l)) := fun j q l h => by
    by_cases hi : i < s.length
    · rcases set_get hi h with ⟨rfl, e2⟩ | e2
      · cases e2
      · exact e2
    · rw [List.set_eq_of_length_le (Nat.le_of_not_lt hi)] at h
      exact ⟨fun z => by subst z; exact hi (lt_of_some h), h⟩
  refine ⟨⟨n.ex, ln, fun j x h => ?_, fun j q l h => ?_, fun j1 j2 q1 q2 l1 l2 b h1 h2 h3 h4 => ?_⟩, Mv.refl n.ex, fun a ⟨j, q, l, h1, h2⟩ => ?_, fun j k h => ?_, fun j hj => ?_, List.length_set, fun j q l h => ⟨l, (back j q l h).2, List.getElem?_set_ne (back j q l h).1⟩⟩
  · by_cases hi : i < s.length
    · rcases set_get hi h with ⟨rfl, e2⟩ | ⟨ne, e2⟩
      · cases e2
        exact ⟨v, List.getElem?_set_self (by rw [n.len]; exact hi), r⟩
      · obtain ⟨w, h1, h2⟩ := n.dat j x e2
        exact ⟨w, by rw [List.getElem?_set_ne ne]; exact h1, h2⟩
    · rw [List.set_eq_of_length_le (Nat.le_of_not_lt hi)] at h
      obtain ⟨w, h1, h2⟩ := n.dat j x h
      exact ⟨w, by rw [List.set_eq_of_length_le (by rw [n.len]; exact Nat.le_of_not_lt hi)]; exact h1, h2⟩
  · obtain ⟨ne, e2⟩ := back j q l h
    obtain ⟨b, h1, h2⟩ := n.own j q l e2
    exact ⟨b, by rw [List.getElem?_set_ne ne]; exact h1, h2⟩
  · obtain ⟨ne1, e1⟩ := back _ _ _ h1
    obtain ⟨ne2, e2⟩ := back _ _ _ h2
    rw [List.getElem?_set_ne ne1] at h3
    rw [List.getElem?_set_ne ne2] at h4
    exact n.sep j1 j2 _ _ _ _ b e1 e2 h3 h4
  · obtain ⟨ne, e1⟩ := back _ _ _ h1
    rw [List.getElem?_set_ne ne] at h2
    exact ⟨j, q, l, e1, h2⟩
  · have ne : i ≠ j := fun z => by subst z; exact np k h
    exact ⟨⟨k, by rw [List.getElem?_set_ne ne]; exact h⟩, List.getElem?_set_ne ne⟩
  · exact List.getElem?_set_ne fun z => hj (by rw [z]; exact List.mem_singleton.mpr rfl)
theorem sg_name {i : Nat} : SG K E [i] (gName i) (gN i) := fun s σ G H d v n r Q q => by
  unfold gN at q
  split at q
  · exact q.elim
  · rename_i h
    exact q _ G H (n.setD r fun k e => h k e)
abbrev EvGs := List Dat → Env → Out Unit
def SGs (K : PySem.W.Frag) (E : XK) (is : List Nat) (g : TGs) (eg : EvGs) : Prop := ∀ s σ G H ds vs, Now K s σ G H → Reps K G ds vs → ∀ Q : L2.St → Hp → Prop, GetsT K E is σ s G H (eg ds s) Q → g vs σ H Q
@[simp] def gNils (ds : List Dat) (s : Env) : Out Unit := match ds with
  | [] => .ok () s
  | _ => .bad
theorem Tgt.refl (n : Now K s σ G H) : Tgt K [] σ s G H σ s G H := ⟨n, Mv.refl n.ex, fun _ z => z, fun _ k h => ⟨⟨k, h⟩, rfl⟩, fun _ _ => rfl, rfl, fun _ _ k h => ⟨k, h, rfl⟩⟩
theorem sg_nil : SGs K E [] gNil gNils := fun s σ G H ds vs n r Q q => by
  cases ds with
  | nil => exact ⟨r, q σ G H (Tgt.refl n)⟩
  | cons d ds => exact q.elim
@[simp] def gConss (e1 : EvG) (e2 : EvGs) (ds : List Dat) (s : Env) : Out Unit := match ds with
  | d :: r => (e1 d s).bind fun _ s1 => e2 r s1
  | [] => .bad
theorem sg_cons {is js : List Nat} {g : TG} {gs : TGs} {e1 : EvG} {e2 : EvGs} (h1 : SG K E is g e1) (h2 : SGs K E js gs e2) : SGs K E (is ++ js) (gCons g gs) (gConss e1 e2) := fun s σ G H ds vs n r Q q => by
  cases ds with
  | nil => exact q.elim
  | cons d ds =>
    obtain ⟨v, w, rfl, r1, r2⟩ := r
    refine ⟨v, w, rfl, h1 s σ G H d v n r1 _ ?_⟩
    unfold gConss at q
    simp only at q
    cases e : e1 d s with
    | ok u s1 =>
      rw [e] at q
      intro σ1 G1 H1 t1
      refine h2 s1 σ1 G1 H1 ds w t1.now (r2.mono t1.mv.g) Q ?_
      simp only [Out.bind_ok] at q
      cases e3 : e2 ds s1 with
      | ok u s2 => rw [e3] at q; exact fun σ2 G2 H2 t2 => q σ2 G2 H2 (t1.trans t2)
      | exc x s2 => rw [e3] at q; exact fun cls dd σ2 G2 H2 t2 => q cls dd σ2 G2 H2 (t1.trans t2)
      | bad => rw [e3] at q; exact q
    | exc x s1 =>
      rw [e] at q
      exact fun cls dd σ2 G2 H2 t2 => q cls dd σ2 G2 H2 ⟨t2.now, t2.mv, t2.own, t2.pin, fun i hi => t2.out i fun z => hi (List.mem_append_left _ z), t2.len, t2.ix⟩
    | bad => rw [e] at q; exact q.elim
@[simp] def gTu (k : Nat) (eg : EvGs) (d : Dat) (s : Env) : Out Unit := match d with
  | .tup ds => if ds.length = k then eg ds s else .bad
  | _ => .bad
theorem sg_tup {is : List Nat} {k : Nat} {gs : TGs} {eg : EvGs} (h : SGs K E is gs eg) : SG K E is (gTup K k gs) (gTu k eg) := fun s σ G H d v n r Q q => by
  unfold gTu at q
  split at q
  · rename_i ds
    split at q
    · rename_i hl
      obtain ⟨a, xs, rfl, hq, rs⟩ := r
      exact ⟨a, xs, rfl, SqT.of (n.ex _ _ hq), rs.len.trans hl, h s σ G H ds xs n rs Q q⟩
    · exact q.elim
  · exact q.elim
/-! assignments -/
@[simp] def sAsg (ea : EvD) (eg : EvG) (s : Env) : SR := SR.of (ea s) fun d s1 => SR.of (eg d s1) fun _ s2 => .nx s2
theorem Wants.ofT {e : Ent} {D : Ends} {is : List Nat} {o : Out Unit} {f : Unit → Env → SR} {Q : L2.St → Hp → Prop} (t : At e s σ G H) (h : Wants K E e D (SR.of o f))
    (k : ∀ s1 σ1 G1 H1, o = .ok () s1 → Tgt K is σ s G H σ1 s1 G1 H1 → At e s1 σ1 G1 H1 → Wants K E e D (f () s1) → Q σ1 H1) : GetsT K E is σ s G H o Q := by
  cases o with
  | ok a s1 => exact fun σ1 G1 H1 b => k s1 σ1 G1 H1 rfl b (t.tgt b) h
  | exc x s1 => exact fun cls dd σ1 G1 H1 b r => h cls dd σ1 G1 H1 b.now (t.tgt b) r
  | bad => exact h
theorem ss_asg {is : List Nat} {g : TG} {eg : EvG} (h : SD K E te ea) (hg : SG K E is g eg) : SS K E (tAsg te g) (sAsg ea eg) := fun e s σ G H n t D w =>
  h s σ G H n _ (w.of t fun d s1 v G1 H1 _ b tb r w1 => hg s1 σ G1 H1 d v b.now r _ (w1.ofT tb fun s2 σ2 G2 H2 _ b2 tb2 w2 => w2 σ2 G2 H2 b2.now tb2))
/-- a name is given an answer -/
@[simp] def setV (i : Nat) (r : RV) (s : Env) : SR := match s[i]? with
  | some (some (.c true _)) => .bad
  | _ => match r with
    | .d x => .nx (s.set i (some (.d x)))
    | .c k => .nx (s.set i (some (.c false k)))
    | .t _ _ => .bad
theorem Now.setC (n : Now K s σ G H) {i : Nat} {k : Cel} {a : Addr} (no : ¬ OwnA s σ a) (hd : Hold K G H a k) (np : ∀ k, s[i]? ≠ some (some (.c true k))) : Now K (s.set i (some (.c false k))) (σ.set i (some (.ref a))) G H ∧ (∀ (j : Nat) (q : Bool) (l : Cel) (b : Addr), (s.set i (some (.c false k)))[j]? = some (some (.c q l)) → (σ.set i (some (V.ref a)))[j]? = some (some (.ref b)) → (q = false ∧ b = a) ∨ (s[j]? = some (some (.c q l)) ∧ σ[j]? = some (some (.ref b)))) ∧
    ∀ (j : Nat) (l : Cel), s[j]? = some (some (.c true l)) → (∃ l', (s.set i (some (.c false k)))[j]? = some (some (.c true l'))) ∧ (σ.set i (some (V.ref a)))[j]? = σ[j]? := by
  have ln : (σ.set i (some (V.ref a))).length = (s.set i (some (.c false k))).length := by rw [List.length_set, List.length_set]; exact n.len
  by_cases hi : i < s.length
  · have hi' : i < σ.length := by rw [n.len]; exact hi
    have back : ∀ (j : Nat) (q : Bool) (l : Cel), (s.set i (some (.c false k)))[j]? = some (some (.c q l)) → (i = j ∧ l = k) ∨ (i ≠ j ∧ s[j]? = some (some (.c q l))) := fun j q l h => by
      rcases set_get hi h with ⟨rfl, e2⟩ | e2
      · cases e2; exact .inl ⟨rfl, rfl⟩
      · exact .inr e2
    refine ⟨⟨n.ex, ln, fun j x h => ?_, fun j q l h => ?_, fun j1 j2 q1 q2 l1 l2 b h1 h2 h3 h4 => ?_⟩, fun j q l b h1 h2 => ?_, fun j l h => ?_⟩
    · rcases set_get hi h with ⟨_, e2⟩ | ⟨ne, e2⟩
      · cases e2
      · obtain ⟨w, h1, h2⟩ := n.dat j x e2
        exact ⟨w, by rw [List.getElem?_set_ne ne]; exact h1, h2⟩
    · rcases back j q l h with ⟨rfl, rfl⟩ | ⟨ne, e2⟩
      · exact ⟨a, List.getElem?_set_self hi', hd⟩
      · obtain ⟨b, h1, h2⟩ := n.own j q l e2
        exact ⟨b, by rw [List.getElem?_set_ne ne]; exact h1, h2⟩
    · rcases back _ _ _ h1 with ⟨rfl, _⟩ | ⟨ne1, e1⟩ <;> rcases back _ _ _ h2 with ⟨z, _⟩ | ⟨ne2, e2⟩
      · exact z
      · rw [List.getElem?_set_self hi'] at h3
        rw [List.getElem?_set_ne ne2] at h4
        cases h3
        exact absurd ⟨_, _, _, e2, h4⟩ no
      · subst z
        rw [List.getElem?_set_self hi'] at h4
        rw [List.getElem?_set_ne ne1] at h3
        cases h4
        exact absurd ⟨_, _, _, e1, h3⟩ no
      · rw [List.getElem?_set_ne ne1] at h3
        rw [List.getElem?_set_ne ne2] at h4
        exact n.sep j1 j2 _ _ _ _ b e1 e2 h3 h4
    · rcases set_get hi h1 with ⟨rfl, e2⟩ | ⟨ne, e2⟩
      · rw [List.getElem?_set_self hi'] at h2
        cases h2
        cases e2
        exact .inl ⟨rfl, rfl⟩
      · rw [List.getElem?_set_ne ne] at h2
        exact .inr ⟨e2, h2⟩
    · have ne : i ≠ j := fun z => by subst z; exact np l h
      exact ⟨⟨l, by rw [List.getElem?_set_ne ne]; exact h⟩, List.getElem?_set_ne ne⟩
  · rw [List.set_eq_of_length_le (Nat.le_of_not_lt hi), List.set_eq_of_length_le (by rw [n.len]; exact Nat.le_of_not_lt hi)]
    exact ⟨n, fun j q l b h1 h2 => .inr ⟨h1, h2⟩, fun j l h => ⟨⟨l, h⟩, rfl⟩⟩
/-- a name is given what an expression answered -/
theorem Now.setV {e : Ent} (n0 : Now K s σ G H) (t0 : At e s σ G H) (b : After K σ s G H s1 G1 H1) {i : Nat} {r : RV} {v : V} (rr : RepRV K H G1 H1 r v) {D : Ends} (w : Wants K E e D (DV.setV i r s1)) : D.nx (σ.set i (some v)) H1 := by
  have tb := t0.after b
  unfold DV.setV at w
  split at w
  · exact w.elim
  · rename_i hp
    cases r with
    | d x =>
      have tg := b.now.setD (i := i) rr fun k e => hp k e
      exact w _ G1 H1 tg.now (tb.tgt tg)
    | c k =>
      obtain ⟨a, rfl, ha, hd⟩ := rr
      have no : ¬ OwnA s1 σ a := fun z => n0.notOwn ha (b.lt.ownA z)
      obtain ⟨n1, o1, p1⟩ := b.now.setC (i := i) no hd fun k e => hp k e
      refine w _ G1 H1 n1 ⟨tb.fl, tb.mv, fun j q l c h1 h2 => ?_, fun j c p => ?_⟩
      · rcases o1 j q l c h1 h2 with ⟨rfl, rfl⟩ | ⟨h3, h4⟩
        · exact .inr ⟨rfl, t0.mv.fresh ha⟩
        · exact tb.ix j q l c h3 h4
      · obtain ⟨l, h1, h2⟩ := tb.pin j c p
        obtain ⟨h3, h4⟩ := p1 j l h1
        obtain ⟨l', h3⟩ := h3
        exact ⟨l', h3, h4.trans h2⟩
    | t pre es => exact w.elim
@[simp] def sAsgV (ev : EvV) (i : Nat) (s : Env) : SR := SR.of (ev s) fun r s1 => setV i r s1
theorem ss_asgV {i : Nat} (h : SV K E te ev) : SS K E (tAsg te (gName i)) (sAsgV ev i) := fun e s σ G H n t D w =>
  h s σ G H n _ (w.of t fun r s1 v G1 H1 _ b tb rr w1 => n.setV t b rr w1)
/-- i, j = a, b -/
@[simp] def sPar (ea eb : EvV) (i j : Nat) (s : Env) : SR := SR.of (ea s) fun r s1 => SR.of (eb s1) fun q s2 => match setV i r s2 with
  | .nx s3 => if i = j then .bad else setV j q s3
  | _ => .bad
/-! defs -/
@[simp] def env0 (n : Nat) (io : Option Cel) (ds : List Dat) : Env := (io.toList.map fun k => some (Ow.c true k)) ++ ds.map (fun d => some (Ow.d d)) ++ List.replicate (n - (io.toList.length + ds.length)) none
@[simp] def ioOf (io : Option Cel) (s : Env) : Option Cel := match io with
  | none => none
  | some _ => match s[(0 : Nat)]? with
    | some (some (.c true k)) => some k
    | _ => none
@[simp] def runB (ar n : Nat) (st : EvS) (io : Option Cel) (ds : List Dat) : FR := if io.toList.length + ds.length = ar then match st (env0 n io ds) with
    | .rt r s => .ok r (ioOf io s)
    | .nx s => .ok (.d .non) (ioOf io s)
    | .xc x s => .exc x (ioOf io s)
    | _ => .bad
  else .bad
theorem SpF.len {K : PySem.W.Frag} {ar n : Nat} {st : EvS} : ∀ vs H Q E, SpF K (runB ar n st) vs H Q E → vs.length = ar := fun vs H Q E ⟨G, io, ds, ws, ex, e, rs, hi, q⟩ => by
  unfold runB at q
  split at q
  · rename_i h
    rw [e, List.length_append, rs.len, ← h]
    cases io <;> simp
  · exact q.elim
theorem now_start {N : List Str} {io : Option (Addr × Cel)} {ds : List Dat} {ws : List V} (ex : Ex G H) (rs : Reps K G ds ws) (hi : ∀ a k, io = some (a, k) → Hold K G H a k) :
    Now K (env0 N.length (io.map (·.2)) ds) (L2.start N ((io.toList.map fun x => V.ref x.1) ++ ws)) G H ∧ (∀ a, OwnA (env0 N.length (io.map (·.2)) ds) (L2.start N ((io.toList.map fun x => V.ref x.1) ++ ws)) a → ∃ l, io = some (a, l)) ∧
    ∀ a l, io = some (a, l) → (∃ k, (env0 N.length (io.map (·.2)) ds)[0]? = some (some (.c true k))) ∧ (L2.start N ((io.toList.map fun x => V.ref x.1) ++ ws))[0]? = some (some (V.ref a)) := by
  have hl := rs.len
  have tailD : ∀ (n : Nat) (i : Nat) (o : Ow), ((ds.map fun d => some (Ow.d d)) ++ List.replicate n none)[i]? = some (some o) → ∃ x, o = .d x ∧ ds[i]? = some x := fun n i o h => by
    by_cases l : i < ds.length
    · rw [List.getElem?_append_left (by simpa using l), List.getElem?_map] at h
      cases e : ds[i]? with
      | none => rw [e] at h; cases h
      | some x => rw [e] at h; cases h; exact ⟨x, rfl, rfl⟩
    · rw [List.getElem?_append_right (by simpa using Nat.le_of_not_lt l), List.getElem?_replicate] at h
      split at h <;> cases h
  have tailV : ∀ (n : Nat) (i : Nat) (x : Dat), ds[i]? = some x → ∃ v, (ws.map some ++ List.replicate n none)[i]? = some (some v) ∧ Rep K G x v := fun n i x h => by
    obtain ⟨v, h1, h2⟩ := rs.get h
    exact ⟨v, by rw [List.getElem?_append_left (by simpa using lt_of_some h1), List.getElem?_map, h1]; rfl, h2⟩
  cases io with
  | none =>
    have e1 : env0 N.length (Option.map (·.2) (none : Option (Addr × Cel))) ds = (ds.map fun d => some (Ow.d d)) ++ List.replicate (N.length - ds.length) none := by
      unfold env0; simp
    have e2 : L2.start N (((none : Option (Addr × Cel)).toList.map fun x => V.ref x.1) ++ ws) = ws.map some ++ List.replicate (N.length - ws.length) none := by
      unfold L2.start; simp
    rw [e1, e2]
    refine ⟨⟨ex, by simp [hl], fun i x h => ?_, fun i p k h => ?_, fun i j p q k l a h => ?_⟩, fun a ⟨i, p, k, h, _⟩ => ?_, fun a l h => nomatch h⟩
    · obtain ⟨y, e, h2⟩ := tailD _ _ _ h
      cases e
      exact tailV _ _ _ h2
    · obtain ⟨y, e, h2⟩ := tailD _ _ _ h
      cases e
    · obtain ⟨y, e, h2⟩ := tailD _ _ _ h
      cases e
    · obtain ⟨y, e, h2⟩ := tailD _ _ _ h
      cases e
  | some ak =>
    obtain ⟨a, k⟩ := ak
    have e1 : env0 N.length (Option.map (·.2) (some (a, k))) ds = some (Ow.c true k) :: ((ds.map fun d => some (Ow.d d)) ++ List.replicate (N.length - (1 + ds.length)) none) := by
      unfold env0; simp
    have e2 : L2.start N (((some (a, k) : Option (Addr × Cel)).toList.map fun x => V.ref x.1) ++ ws) = some (V.ref a) :: (ws.map some ++ List.replicate (N.length - (ws.length + 1)) none) := by
      unfold L2.start; simp
    rw [e1, e2]
    have zero : ∀ (i : Nat) (p : Bool) (l : Cel), (some (Ow.c true k) :: ((ds.map fun d => some (Ow.d d)) ++ List.replicate (N.length - (1 + ds.length)) none))[i]? = some (some (.c p l)) → i = 0 ∧ p = true ∧ l = k := fun i p l h => by
      cases i with
      | zero => simp at h; exact ⟨rfl, h.1, h.2.symm⟩
      | succ i =>
        obtain ⟨y, e, h2⟩ := tailD _ i _ (by simpa using h)
        cases e
    refine ⟨⟨ex, by simp [hl]; omega, fun i x h => ?_, fun i p l h => ?_, fun i j p q l m b h1 h2 h3 h4 => ?_⟩, fun b ⟨i, p, l, h, h2⟩ => ?_, fun b l h => ?_⟩
    · cases i with
      | zero => simp at h
      | succ i =>
        obtain ⟨y, e, h2⟩ := tailD _ i _ (by simpa using h)
        cases e
        obtain ⟨v, h3, h4⟩ := tailV (N.length - (ws.length + 1)) _ _ h2
        exact ⟨v, by simpa using h3, h4⟩
    · obtain ⟨rfl, rfl, rfl⟩ := zero i p l h
      exact ⟨a, rfl, hi a l rfl⟩
    · rw [(zero _ _ _ h1).1, (zero _ _ _ h2).1]
    · obtain ⟨rfl, rfl, rfl⟩ := zero i p l h
      simp at h2
      subst h2
      exact ⟨_, rfl⟩
    · cases h
      exact ⟨⟨k, rfl⟩, rfl⟩
theorem start_pin {n : Nat} {io : Option Cel} {ds : List Dat} : ∀ (i : Nat) (p : Bool) (k : Cel), (env0 n io ds)[i]? = some (some (.c p k)) → p = true := fun i p k h => by
  unfold env0 at h
  have h := List.mem_of_getElem? h
  simp only [List.mem_append, List.mem_map, List.mem_replicate] at h
  rcases h with (⟨x, _, e⟩ | ⟨x, _, e⟩) | ⟨_, e⟩
  · cases e; rfl
  · cases e
  · cases e
theorem SpF.body {N : List Str} {t : TS} {st : EvS} {vs : List V} {Q : VK} {ar : Nat} (h : SpF K (runB ar N.length st) vs H Q E) (b : SS K E t st) : t { nx := fun _ H' => Q .non H', rt := Q } (L2.start N vs) H := by
  obtain ⟨G, io, ds, ws, ex, rfl, rs, hi, q⟩ := h
  obtain ⟨n, o, z⟩ := now_start (N := N) ex rs hi
  have o2 := start_pin (n := N.length) (io := io.map (·.2)) (ds := ds)
  let e : Ent := ⟨G, IoA io, G, H, fun i a => i = 0 ∧ IoA io a⟩
  have ta : At e (env0 N.length (io.map (·.2)) ds) (L2.start N ((io.toList.map fun x => V.ref x.1) ++ ws)) G H := ⟨Ex.refl _, Mv.refl ex, fun i p k a h1 h2 => .inl ⟨o2 i p k h1, o a ⟨i, p, k, h1, h2⟩⟩, fun i a w => by
    obtain ⟨rfl, l, w⟩ := w
    obtain ⟨⟨k, h1⟩, h2⟩ := z a l w
    exact ⟨k, h1, h2⟩⟩
  have fin : ∀ {s' : Env} {σ' : L2.St} {G' H' : Hp}, Now K s' σ' G' H' → At e s' σ' G' H' → IoEnd K G' H' io (ioOf (io.map (·.2)) s') := fun {s' σ' G' H'} n' t' a l w => by
    obtain ⟨k, h1, h2⟩ := t'.pin 0 a ⟨rfl, l, w⟩
    obtain ⟨b, h3, h4⟩ := n'.own 0 true k h1
    rw [h2] at h3
    cases h3
    subst w
    refine ⟨k, ?_, h4⟩
    unfold ioOf
    simp only [Option.map_some, h1]
  refine b e _ _ G H n ta _ ?_
  unfold runB at q
  split at q
  case isFalse => exact q.elim
  cases w : st (env0 N.length (io.map (·.2)) ds) with
  | nx s' => rw [w] at q; exact fun σ' G' H' n' t' => q .non G' H' t'.mv (fin n' t') rfl
  | rt r s' => rw [w] at q; exact fun v σ' G' H' n' t' r' => q v G' H' t'.mv (fin n' t') r'
  | bk s' => rw [w] at q; exact q.elim
  | ct s' => rw [w] at q; exact q.elim
  | xc x s' => rw [w] at q; exact fun cls dd σ' G' H' n' t' r' => q cls dd G' H' t'.mv (fin n' t') r'
  | bad => rw [w] at q; exact q.elim
end
end DV

set_option autoImplicit false
set_option linter.all false
set_option maxRecDepth 100000
set_option maxHeartbeats 1000000
/-! Calls, walks, loops, comprehensions, cells that change. -/
namespace DV
open PySem L2
section
variable {K : PySem.W.Frag} {E : XK} {te ta tb to : TE} {ea eb : EvD} {eo : EvO} {ev : EvV} {tt : TT} {et : EvT} {tr tk : TA} {er ek : EvA} {s s1 s' : Env} {σ : L2.St} {G H G1 H1 G2 H2 : Hp}
/-! ### calls -/
/-- how arguments by name come to their places -/
def Arr (K : PySem.W.Frag) (gV : List V → List V → List V) (gD : List Dat → List Dat → List Dat) : Prop := ∀ G es fs vs zs, Reps K G es vs → Reps K G fs zs → Reps K G (gD es fs) (gV vs zs)
def ArrC (K : PySem.W.Frag) (gV : List V → List V → List V) (gD : List Dat → List Dat → List Dat) : Prop := ∀ G es fs x vs zs, Reps K G es vs → Reps K G fs zs → ∃ ws, gV (x :: vs) zs = x :: ws ∧ Reps K G (gD es fs) ws
theorem arr_id : Arr K (fun vs _ => vs) (fun es _ => es) := fun G es fs vs zs r _ => r
theorem arrC_id : ArrC K (fun vs _ => vs) (fun es _ => es) := fun G es fs x vs zs r _ => ⟨vs, rfl, r⟩
theorem arr_app : Arr K (fun vs zs => vs ++ zs) (fun es fs => es ++ fs) := fun G es fs vs zs r r' => r.app r'
@[simp] def frRV : FR → Option RV
  | .ok r _ => some r
  | _ => none
@[simp] def eCall (k m : Nat) (F : FT) (gD : List Dat → List Dat → List Dat) (ea ek : EvA) (s : Env) : Out RV := (ea s).bind fun es s1 => (ek s1).bind fun fs s2 => if es.length = k ∧ fs.length = m then lift (frRV (F none (gD es fs))) s2 else .bad
theorem After.rv (n : Now K s σ G H) (a : After K σ s G H s1 G1 H1) {r : RV} {v : V} (rr : RepRV K H1 G2 H2 r v) : RepRV K H G2 H2 r v := by
  cases r with
  | d x => exact rr
  | c k =>
    obtain ⟨b, rfl, hb, hd⟩ := rr
    exact ⟨b, rfl, a.mv.fresh hb, hd⟩
  | t pre es =>
    obtain ⟨b, c, rfl, hb, hc, hd⟩ := rr
    exact ⟨b, c, rfl, a.mv.fresh hb, a.mv.fresh hc, hd⟩
/-- a call of a promise by values -/
theorem call_run {F : FT} {ds : List Dat} {vs : List V} {r : RV} {Q : VK} {E' : XK} (n : Now K s σ G H) (rs : Reps K G ds vs) (e : frRV (F none ds) = some r) (q : ∀ v G2 H2, After K σ s G H s G2 H2 → RepRV K H G2 H2 r v → Q v H2) : SpF K F vs H Q E' := by
  refine ⟨G, none, ds, vs, n.ex, rfl, rs, (fun a k z => nomatch z), ?_⟩
  show FEnd K E' G H none (F none ds) Q
  cases h : F none ds with
  | ok r' k =>
    rw [h] at e
    cases e
    exact fun v G2 H2 m _ rr => q v G2 H2 (After.mvN n (m.weak fun a z => by obtain ⟨l, z⟩ := z; cases z)) rr
  | exc x k => rw [h] at e; cases e
  | bad => rw [h] at e; cases e
theorem sv_call {F : FT} {k m : Nat} {gV : List V → List V → List V} {gD : List Dat → List Dat → List Dat} {E' : XK} (hg : Arr K gV gD) (ha : SA K E tr er) (hk : SA K E tk ek) : SV K E (tG (rFn k m (SpF K F) gV E') tr tk) (eCall k m F gD er ek) := fun s σ G H n Q q => by
  refine ha s σ G H n _ ?_
  unfold eCall at q
  cases h1 : er s with
  | exc x s1 => rw [h1] at q; exact q
  | bad => rw [h1] at q; exact q
  | ok es s1 =>
    rw [h1] at q
    simp only [Out.bind_ok] at q
    intro vs G1 H1 a1 r1
    refine hk s1 σ G1 H1 a1.now _ ?_
    cases h2 : ek s1 with
    | exc x s2 => rw [h2] at q; exact Gets.shift (R := fun _ _ (_ : List Dat) (_ : List V) => True) (o := .exc x s2) (Q := fun _ _ => True) q a1
    | bad => rw [h2] at q; exact q
    | ok fs s2 =>
      rw [h2] at q
      simp only [Out.bind_ok] at q
      intro zs G2 H2 a2 r2
      split at q
      · rename_i hl
        refine ⟨by rw [r1.len]; exact hl.1, by rw [r2.len]; exact hl.2, ?_⟩
        obtain ⟨r, e, q3⟩ := Gets.lift q
        refine call_run a2.now (hg G2 es fs vs zs (r1.mono a2.mv.g) r2) e fun v G3 H3 a3 rr => q3 v G3 H3 ((a1.trans a2).trans a3) ((a1.trans a2).rv n rr)
      · exact q.elim
/-- .. whose first argument is a cell that the callee may change -/
@[simp] def eCallC (i k m : Nat) (F : FT) (gD : List Dat → List Dat → List Dat) (ea ek : EvA) (s : Env) : Out RV := eHas i (fun s => (ea s).bind fun es s1 => (ek s1).bind fun fs s2 => if es.length + 1 = k ∧ fs.length = m then match s2[i]? with
    | some (some (.c p c)) => match F (some c) (gD es fs) with
      | .ok r (some c') => .ok r (s2.set i (some (.c p c')))
      | _ => .bad
    | _ => .bad
  else .bad) s
theorem sv_callC {F : FT} {i k m : Nat} {gV : List V → List V → List V} {gD : List Dat → List Dat → List Dat} {E' : XK} (hg : ArrC K gV gD) (ha : SA K E tr er) (hk : SA K E tk ek) : SV K E (tG (rFn k m (SpF K F) gV E') (tCons (tVar i) tr) tk) (eCallC i k m F gD er ek) := fun s σ G H n Q q => by
  unfold eCallC eHas at q
  split at q
  · rename_i o e0
    try dsimp only at q
    obtain ⟨v, hv⟩ := n.val e0
    refine ⟨v, hv, ha s σ G H n _ ?_⟩
    cases h1 : er s with
    | exc x s1 => rw [h1] at q; exact q
    | bad => rw [h1] at q; exact q
    | ok es s1 =>
      rw [h1] at q
      simp only [Out.bind_ok] at q
      intro vs G1 H1 a1 r1
      refine hk s1 σ G1 H1 a1.now _ ?_
      cases h2 : ek s1 with
      | exc x s2 => rw [h2] at q; exact Gets.shift (R := fun _ _ (_ : List Dat) (_ : List V) => True) (o := .exc x s2) (Q := fun _ _ => True) q a1
      | bad => rw [h2] at q; exact q
      | ok fs s2 =>
        rw [h2] at q
        simp only [Out.bind_ok] at q
        intro zs G2 H2 a2 r2
        split at q
        · rename_i hl
          refine ⟨by rw [List.length_cons, r1.len]; exact hl.1, by rw [r2.len]; exact hl.2, ?_⟩
          split at q
          · rename_i p c e
            obtain ⟨a, ha, hd⟩ := a2.now.own i p c e
            rw [hv] at ha
            cases ha
            obtain ⟨ws, ew, rw_⟩ := hg G2 es fs (.ref a) vs zs (r1.mono a2.mv.g) r2
            rw [ew]
            refine ⟨G2, some (a, c), gD es fs, ws, a2.now.ex, rfl, rw_, fun b k z => by cases z; exact hd, ?_⟩
            show FEnd K E' G2 H2 (some (a, c)) (F (some c) (gD es fs)) Q
            cases h : F (some c) (gD es fs) with
            | exc x k => rw [h] at q; exact q.elim
            | bad => rw [h] at q; exact q.elim
            | ok r k =>
              rw [h] at q
              cases k with
              | none => exact q.elim
              | some c' =>
                intro w G3 H3 mv io rr
                obtain ⟨c2, e2, hd2⟩ := io a c rfl
                cases e2
                have a3 := a2.now.cell e hv (mv.weak fun b z => by obtain ⟨l, z⟩ := z; cases z; rfl) hd2
                exact q w G3 H3 ((a1.trans a2).trans a3) ((a1.trans a2).rv n rr)
          · exact q.elim
        · exact q.elim
  · exact q.elim
/-! methods, properties, attributes, new instances -/
@[simp] def eMeth (C : Addr) (mm : Str) (k m : Nat) (F : FT) (gD : List Dat → List Dat → List Dat) (eo : EvD) (ea ek : EvA) (s : Env) : Out RV := (eo s).bind fun o s0 => match o with
  | .ins C' fl xs => if C' = C ∧ ixOf mm fl = none then (ea s0).bind fun es s1 => (ek s1).bind fun fs s2 => if es.length + 1 = k ∧ fs.length = m then lift (frRV (F none (gD (.ins C' fl xs :: es) fs))) s2 else .bad else .bad
  | _ => .bad
theorem sv_meth {C : Addr} {mm : Str} {F : FT} {k m : Nat} {gV : List V → List V → List V} {gD : List Dat → List Dat → List Dat} {E' : XK} (hg : Arr K gV gD) (ho : SD K E to ea) (ha : SA K E tr er) (hk : SA K E tk ek) : SV K E (tGM C mm (rFn k m (SpF K F) gV E') to tr tk) (eMeth C mm k m F gD ea er ek) := fun s σ G H n Q q => by
  refine ho s σ G H n _ ?_
  unfold eMeth at q
  cases h0 : ea s with
  | exc x s1 => rw [h0] at q; exact q
  | bad => rw [h0] at q; exact q
  | ok o s0 =>
    rw [h0] at q
    simp only [Out.bind_ok] at q
    intro x G0 H0 a0 r0
    split at q
    · rename_i C' fl xs
      split at q
      · rename_i hc
        obtain ⟨rfl, hm⟩ := hc
        obtain ⟨a, dx, ws, rfl, hgt, hl, rs⟩ := r0
        refine ⟨a, dx, _, rfl, a0.now.ex _ _ hgt, ixOf_none hm, ?_⟩
        refine ha s0 σ G0 H0 a0.now _ ?_
        cases h1 : er s0 with
        | exc x s1 => rw [h1] at q; exact Gets.shift (R := fun _ _ (_ : List Dat) (_ : List V) => True) (o := .exc x s1) (Q := fun _ _ => True) q a0
        | bad => rw [h1] at q; exact q
        | ok es s1 =>
          rw [h1] at q
          simp only [Out.bind_ok] at q
          intro vs G1 H1 a1 r1
          refine hk s1 σ G1 H1 a1.now _ ?_
          cases h2 : ek s1 with
          | exc x s2 => rw [h2] at q; exact Gets.shift (R := fun _ _ (_ : List Dat) (_ : List V) => True) (o := .exc x s2) (Q := fun _ _ => True) q (a0.trans a1)
          | bad => rw [h2] at q; exact q
          | ok fs s2 =>
            rw [h2] at q
            simp only [Out.bind_ok] at q
            intro zs G2 H2 a2 r2
            split at q
            · rename_i hl2
              refine ⟨by rw [List.length_cons, r1.len]; exact hl2.1, by rw [r2.len]; exact hl2.2, ?_⟩
              obtain ⟨r, e, q3⟩ := Gets.lift q
              have g12 := a1.mv.g.trans a2.mv.g
              have self : Reps K G2 (.ins C' fl xs :: es) (.ref a :: vs) := ⟨_, vs, rfl, ⟨a, dx, ws, rfl, g12 _ _ hgt, hl, rs.mono g12⟩, r1.mono a2.mv.g⟩
              have aa := (a0.trans a1).trans a2
              exact call_run a2.now (hg G2 _ fs _ zs self r2) e fun v G3 H3 a3 rr => q3 v G3 H3 (aa.trans a3) (aa.rv n rr)
            · exact q.elim
      · exact q.elim
    · exact q.elim
@[simp] def eProp (C : Addr) (F : FT) (eo : EvD) (s : Env) : Out RV := (eo s).bind fun o s0 => match o with
  | .ins C' fl xs => if C' = C then lift (frRV (F none [.ins C' fl xs])) s0 else .bad
  | _ => .bad
theorem sv_prop {C : Addr} {F : FT} {E' : XK} (ho : SD K E to ea) : SV K E (tPropG C (SpF K F) E' to) (eProp C F ea) := fun s σ G H n Q q => by
  refine ho s σ G H n _ ?_
  unfold eProp at q
  cases h0 : ea s with
  | exc x s1 => rw [h0] at q; exact q
  | bad => rw [h0] at q; exact q
  | ok o s0 =>
    rw [h0] at q
    simp only [Out.bind_ok] at q
    intro x G0 H0 a0 r0
    split at q
    · rename_i C' fl xs
      split at q
      · rename_i hc
        subst hc
        obtain ⟨a, dx, ws, rfl, hgt, hl, rs⟩ := r0
        refine ⟨a, dx, _, rfl, a0.now.ex _ _ hgt, ?_⟩
        obtain ⟨r, e, q3⟩ := Gets.lift q
        have self : Reps K G0 [.ins C' fl xs] [.ref a] := Reps.one ⟨a, dx, ws, rfl, hgt, hl, rs⟩
        exact call_run a0.now self e fun v G3 H3 a3 rr => q3 v G3 H3 (a0.trans a3) (a0.rv n rr)
      · exact q.elim
    · exact q.elim
@[simp] def fldOf (Cs : List Addr) (f : Str) (o : Dat) : Option Dat := match o with
  | .ins C fl xs => if C ∈ Cs then (ixOf f fl).bind fun i => xs[i]? else none
  | _ => none
@[simp] def eFld (Cs : List Addr) (f : Str) (eo : EvD) (s : Env) : Out Dat := (eo s).bind fun o s0 => lift (fldOf Cs f o) s0
theorem sd_fld {Cs : List Addr} {f : Str} (hC : ∀ C ∈ Cs, Cls K C ∧ NoAttr K C f) (ho : SD K E to ea) : SD K E (tFld K to f) (eFld Cs f ea) := fun s σ G H n Q q =>
  ho s σ G H n _ (q.seq fun o s0 x G0 H0 _ a0 r0 q1 => by
    obtain ⟨d, e, q2⟩ := q1.lift
    cases o with
    | ins C fl xs =>
      simp only [fldOf] at e
      split at e
      · rename_i hc
        obtain ⟨a, dx, ws, rfl, hgt, hl, rs⟩ := r0
        cases h : ixOf f fl with
        | none => rw [h] at e; cases e
        | some i =>
          rw [h] at e
          obtain ⟨v, h1, h2⟩ := rs.get (show xs[i]? = some d from e)
          exact ⟨a, C, dx, _, v, rfl, a0.now.ex _ _ hgt, (hC C hc).1, (hC C hc).2, ixOf_zip h h1, q2 v G0 H0 (After.refl a0.now) h2⟩
      · cases e
    | _ => cases e)
/-- C(..): F is its __init__ -/
@[simp] def eMake (C : Addr) (k m : Nat) (F : FT) (gD : List Dat → List Dat → List Dat) (ea ek : EvA) (s : Env) : Out Cel := (ea s).bind fun es s1 => (ek s1).bind fun fs s2 => if es.length = k ∧ fs.length = m then match F (some (.ins C [] [])) (gD es fs) with
    | .ok (.d .non) (some c) => .ok c s2
    | _ => .bad
  else .bad
theorem so_make {C : Addr} {F : FT} {k m : Nat} {gV : List V → List V → List V} {gD : List Dat → List Dat → List Dat} {E' : XK} (hg : ArrC K gV gD) (ha : SA K E tr er) (hk : SA K E tk ek) : SO K E (tG (rMk C k m (SpF K F) gV E') tr tk) (eMake C k m F gD er ek) := fun s σ G H n Q q => by
  refine ha s σ G H n _ ?_
  unfold eMake at q
  cases h1 : er s with
  | exc x s1 => rw [h1] at q; exact q
  | bad => rw [h1] at q; exact q
  | ok es s1 =>
    rw [h1] at q
    simp only [Out.bind_ok] at q
    intro vs G1 H1 a1 r1
    refine hk s1 σ G1 H1 a1.now _ ?_
    cases h2 : ek s1 with
    | exc x s2 => rw [h2] at q; exact Gets.shift (R := fun _ _ (_ : List Dat) (_ : List V) => True) (o := .exc x s2) (Q := fun _ _ => True) q a1
    | bad => rw [h2] at q; exact q
    | ok fs s2 =>
      rw [h2] at q
      simp only [Out.bind_ok] at q
      intro zs G2 H2 a2 r2
      split at q
      · rename_i hl
        refine ⟨by rw [r1.len]; exact hl.1, by rw [r2.len]; exact hl.2, fun x dx hx hd ne => ?_⟩
        obtain ⟨ws, ew, rw_⟩ := hg G2 es fs (.ref x) vs zs (r1.mono a2.mv.g) r2
        rw [ew]
        have m1 : Mv nOne G2 H2 G2 (upd H2 dx (.own x)) := Mv.aside a2.now.ex hd
        have hx1 : upd H2 dx (.own x) x = none := by rw [upd_ne ne.symm]; exact hx
        have m2 : Mv nOne G2 (upd H2 dx (.own x)) G2 (upd (upd H2 dx (.own x)) x (.ins C dx [])) := Mv.aside m1.i hx1
        have m12 := m1.trans m2
        refine ⟨G2, some (x, .ins C [] []), gD es fs, ws, m12.i, rfl, rw_, fun b k z => ?_, ?_⟩
        · cases z
          exact ⟨a2.now.ex.none_of hx, _, upd_same, dx, [], rfl, rfl, rfl⟩
        · show FEnd K E' G2 (upd (upd H2 dx (.own x)) x (.ins C dx [])) (some (x, .ins C [] [])) (F (some (.ins C [] [])) (gD es fs)) (fun v H2 => v = .non ∧ Q (.ref x) H2)
          cases h : F (some (.ins C [] [])) (gD es fs) with
          | exc x k => rw [h] at q; exact q.elim
          | bad => rw [h] at q; exact q.elim
          | ok r k =>
            rw [h] at q
            cases r with
            | c k => exact q.elim
            | t pre es => exact q.elim
            | d d =>
              cases d <;> first
                | exact q.elim
                | (cases k with
                  | none => exact q.elim
                  | some c =>
                    intro w G3 H3 mv io rr
                    obtain ⟨c2, e2, hd2⟩ := io x _ rfl
                    cases e2
                    refine ⟨rr, q _ G3 H3 ((a1.trans a2).trans (After.mvN a2.now ⟨m12.g.trans mv.g, mv.i, fun a o _ z => ?_, fun a _ h1 h2 h3 => ?_, fun a z => mv.e a (m12.e a z)⟩)) ⟨x, rfl, (a1.trans a2).mv.fresh hx, hd2⟩⟩
                    · have na : a ≠ x := fun w => by rw [w, hx] at z; cases z
                      exact mv.h a o (fun ⟨l, w⟩ => by cases w; exact na rfl) (m12.h a o (fun w => w) z)
                    · have na : a ≠ x := fun w => h1 (by rw [w]; exact hx)
                      cases z : H2 a with
                      | none => exact absurd z h1
                      | some o =>
                        have e3 := m12.h a o (fun w => w) z
                        exact mv.d a (fun ⟨l, w⟩ => by cases w; exact na rfl) (by rw [e3]; exact fun w => nomatch w) (fun xs w => h2 xs (by rw [z, ← e3, w])) h3)
      · exact q.elim
/-- self.f = e, in a def whose first name is a cell -/
@[simp] def putA (f : Str) (d : Dat) : List Str → List Dat → Option (List Str × List Dat)
  | [], [] => some ([f], [d])
  | g :: gs, x :: xs => if g = f then some (g :: gs, d :: xs) else (putA f d gs xs).map fun p => (g :: p.1, x :: p.2)
  | _, _ => none
theorem putA_ok {f : Str} {d : Dat} {v : V} (rv : Rep K G d v) : ∀ {fs : List Str} {ds : List Dat} {gs : List Str} {es : List Dat} {xs : List V}, putA f d fs ds = some (gs, es) → Reps K G ds xs → fs.length = xs.length → ∃ ys, putF f v (fs.zip xs) = gs.zip ys ∧ gs.length = ys.length ∧ Reps K G es ys
  | [], [], gs, es, xs, h, rs, hl => by
    cases h
    cases (show xs = [] from rs)
    exact ⟨[v], rfl, rfl, Reps.one rv⟩
  | g :: fs, x :: ds, gs, es, xs, h, rs, hl => by
    obtain ⟨y, ys, rfl, r1, r2⟩ := rs
    unfold putA at h
    have lz : fs.length = ys.length := by simpa using hl
    by_cases q : g = f
    · rw [if_pos q] at h
      cases h
      refine ⟨v :: ys, ?_, by simp [lz], ⟨v, ys, rfl, rv, r2⟩⟩
      show putF f v ((g, y) :: fs.zip ys) = _
      unfold putF
      rw [if_pos q, q]
      rfl
    · rw [if_neg q] at h
      cases e : putA f d fs ds with
      | none => rw [e] at h; cases h
      | some p =>
        rw [e] at h
        cases h
        obtain ⟨zs, h1, h2, h3⟩ := putA_ok rv e r2 lz
        refine ⟨y :: zs, ?_, by simp [h2], ⟨y, zs, rfl, r1, h3⟩⟩
        show putF f v ((g, y) :: fs.zip ys) = _
        unfold putF
        rw [if_neg q, h1]
        rfl
  | [], _ :: _, gs, es, xs, h, rs, hl => by cases h
  | _ :: _, [], gs, es, xs, h, rs, hl => by cases h
@[simp] def sPut (Cs : List Addr) (i : Nat) (f : Str) (ea : EvD) (s : Env) : SR := SR.of (ea s) fun d s1 => match s1[i]? with
  | some (some (.c p (.ins C fs ds))) => if C ∈ Cs ∧ fs.length < 1000 then match putA f d fs ds with
      | some (gs, es) => .nx (s1.set i (some (.c p (.ins C gs es))))
      | none => .bad
    else .bad
  | _ => .bad
theorem ss_put {Cs : List Addr} {i : Nat} {f : Str} (hC : ∀ C ∈ Cs, Cls K C ∧ NoAttr K C f) (h : SD K E te ea) : SS K E (sFld K (tVar i) te f) (sPut Cs i f ea) := fun e s σ G H n t D w =>
  h s σ G H n _ (w.of t fun d s1 y G1 H1 _ b tb r w1 => by
    split at w1
    · rename_i p C fs ds e1
      split at w1
      · rename_i hc
        split at w1
        · rename_i gs es e2
          obtain ⟨a, ha, g, o, ho, dx, xs, rfl, hl, rs⟩ := b.now.own i p _ e1
          obtain ⟨ys, h1, h2, h3⟩ := putA_ok r e2 rs hl
          refine ⟨_, ha, a, C, dx, _, rfl, ho, (hC C hc.1).1, (hC C hc.1).2, ?_, ?_⟩
          · rw [List.length_zip, ← hl, Nat.min_self]; exact hc.2
          · have a2 := b.now.write (k2 := .ins C gs es) e1 ha (o := .ins C dx (putF f y (fs.zip xs))) ⟨dx, ys, by rw [h1], h2, h3⟩
            exact w1 σ G1 _ a2.now (tb.after a2)
        · exact w1.elim
      · exact w1.elim
    · exact w1.elim)
end
end DV

set_option autoImplicit false
set_option linter.all false
set_option maxRecDepth 100000
set_option maxHeartbeats 1000000
/-! Walks, loops, comprehensions. -/
namespace DV
open PySem L2
section
variable {K : PySem.W.Frag} {E : XK} {te ta tb to : TE} {ea eb : EvD} {eo : EvO} {ev : EvV} {tt : TT} {et : EvT} {tr tk : TA} {er ek : EvA} {s s1 s' : Env} {σ : L2.St} {G H G1 H1 G2 H2 : Hp} {wi : TI} {ei : EvA}
/-! ### what is walked -/
def SI (K : PySem.W.Frag) (E : XK) (wi : TI) (ev : EvA) : Prop := ∀ s σ G H, Now K s σ G H → ∀ R : It → Hp → Prop, Gets K E σ s G H (fun G' _ ds J => JS (ct K) J ds G') (ev s) R → wi σ H R
theorem sig1 {d : Dat} {v : V} (r : Rep K G d v) : Sig K G [some v] [some d] := ⟨rfl, fun i x h => by
  cases i with
  | zero => cases h; exact ⟨v, rfl, r⟩
  | succ i => simp at h⟩
theorem sig2 {d d' : Dat} {v v' : V} (r : Rep K G d v) (r' : Rep K G d' v') : Sig K G [some v, some v'] [some d, some d'] := ⟨rfl, fun i x h => by
  match i with
  | 0 => cases h; exact ⟨v, rfl, r⟩
  | 1 => cases h; exact ⟨v', rfl, r'⟩
  | i + 2 => simp at h⟩
theorem unvar {v : V} {P : V → Hp → Prop} (h : tVar 0 [some v] H P) : P v H := by
  obtain ⟨w, e, h⟩ := h
  cases e
  exact h
theorem unvar1 {v w : V} {P : V → Hp → Prop} (h : tVar 1 [some v, some w] H P) : P w H := by
  obtain ⟨w, e, h⟩ := h
  cases e
  exact h
theorem unvar0 {v w : V} {P : V → Hp → Prop} (h : tVar 0 [some v, some w] H P) : P v H := by
  obtain ⟨w, e, h⟩ := h
  cases e
  exact h
@[simp] def itemsOf : Dat → Option (List Dat)
  | .lst ds => some ds
  | .tup ds => some ds
  | .str z => some (z.cps.toList.map fun k => Dat.str (sgn k))
  | _ => none
@[simp] def eWalk (ea : EvD) (s : Env) : Out (List Dat) := (ea s).bind fun d s1 => lift (itemsOf d) s1
/-- a walk over a list, a tuple or a text -/
theorem si_any (h : SD K E te ea) (hS : ∀ s z s', ea s ≠ .ok (.str z) s') : SI K E (iAny K te) (eWalk ea) := fun s σ G H n R q => by
  unfold eWalk at q
  cases e : ea s with
  | exc x s1 => rw [e] at q; exact .inl (h s σ G H n _ (by rw [e]; exact q))
  | bad => rw [e] at q; exact q.elim
  | ok d s1 =>
    rw [e] at q
    simp only [Out.bind_ok] at q
    obtain ⟨ds, e2, q2⟩ := q.lift
    cases d <;> first
      | cases e2; done
      | skip
    · -- a text
      exact absurd e (hS _ _ _)
    · cases e2
      refine .inr (h s σ G H n _ ?_)
      rw [e]
      intro v G1 H1 a1 r
      exact unvar (f_tupD (c := ct K) (cs := []) (ev_var rfl) [some v] G1 H1 (sig1 r) a1.now.inn ct_raises R fun ds' J G2 H2 e3 st js => by subst e3; exact q2 J G2 H2 (a1.trans (After.step a1.now st)) js)
    · cases e2
      refine .inl (h s σ G H n _ ?_)
      rw [e]
      intro v G1 H1 a1 r
      exact unvar (f_listD (c := ct K) (cs := []) (ev_var rfl) [some v] G1 H1 (sig1 r) a1.now.inn ct_raises R fun ds' J G2 H2 e3 st js => by subst e3; exact q2 J G2 H2 (a1.trans (After.step a1.now st)) js)
/-- lists, tuples, texts -/
def iWk (K : PySem.W.Frag) (tl : TE) : TI := fun σ H R => iAny K tl σ H R ∨ iStr tl σ H R
theorem si_wk (h : SD K E te ea) : SI K E (iWk K te) (eWalk ea) := fun s σ G H n R q => by
  have q0 := q
  unfold eWalk at q
  cases e : ea s with
  | exc x s1 => rw [e] at q; exact .inl (.inl (h s σ G H n _ (by rw [e]; exact q)))
  | bad => rw [e] at q; exact q.elim
  | ok d s1 =>
    rw [e] at q
    simp only [Out.bind_ok] at q
    obtain ⟨ds, e2, q2⟩ := q.lift
    cases d <;> first
      | cases e2; done
      | skip
    · cases e2
      refine .inr (h s σ G H n _ ?_)
      rw [e]
      intro v G1 H1 a1 r
      exact unvar (f_str (c := ct K) (cs := []) (ev_var rfl) [some v] G1 H1 (sig1 r) a1.now.inn ct_raises R fun ds' J G2 H2 e3 st js => by subst e3; exact q2 J G2 H2 (a1.trans (After.step a1.now st)) js)
    · cases e2
      refine .inl (.inr (h s σ G H n _ ?_))
      rw [e]
      intro v G1 H1 a1 r
      exact unvar (f_tupD (c := ct K) (cs := []) (ev_var rfl) [some v] G1 H1 (sig1 r) a1.now.inn ct_raises R fun ds' J G2 H2 e3 st js => by subst e3; exact q2 J G2 H2 (a1.trans (After.step a1.now st)) js)
    · cases e2
      refine .inl (.inl (h s σ G H n _ ?_))
      rw [e]
      intro v G1 H1 a1 r
      exact unvar (f_listD (c := ct K) (cs := []) (ev_var rfl) [some v] G1 H1 (sig1 r) a1.now.inn ct_raises R fun ds' J G2 H2 e3 st js => by subst e3; exact q2 J G2 H2 (a1.trans (After.step a1.now st)) js)
/-! zip, enumerate, range -/
def asc (z : Str) : Bool := z.cps.all (· < 128)
def zipOf : List Dat → Option (List Dat)
  | [.tup ds, .tup es] => some ((ds.zip es).map fun p => Dat.tup [p.1, p.2])
  | [.lst ds, .lst es] => some ((ds.zip es).map fun p => Dat.tup [p.1, p.2])
  | [.str x, .str y] => if asc x = true ∧ asc y = true then some ((x.cps.toList.zip y.cps.toList).map fun p => Dat.tup [.str (sgn p.1), .str (sgn p.2)]) else none
  | _ => none
@[simp] def eZip (er : EvA) (s : Env) : Out (List Dat) := (er s).bind fun ds s1 => lift (zipOf ds) s1
theorem f_zipL {c : Ct} {cs : Cells} {Δ : Sts} {ta : TA} {ds es : List Dat} (h : EVL c cs Δ ta [.lst ds, .lst es]) : EVF c cs Δ (iZipX c.K ta) fun l => l = (ds.zip es).map fun p => Dat.tup [p.1, p.2] := fun σ G H s I R Q k => by
  refine .inl (h σ G H s I R _ fun dl vl G2 H2 e s2 rd => ?_)
  subst e
  obtain ⟨u, v, rfl, ⟨a, xs, rfl, ha, ra⟩, ⟨b, ys, rfl, hb, rb⟩⟩ := rd.two
  refine ⟨a, b, xs, ys, rfl, .inl ⟨ex_l s2.i ha, ex_l s2.i hb, k _ _ G2 H2 rfl s2 fun cs G' H' e I' i => ⟨fun hl => ?_, fun d hd => ?_⟩⟩⟩
  · rw [List.length_map, List.length_zip] at hl
    exact ⟨xs, ys, ex_l (e.trans I'.ex) ha, ex_l (e.trans I'.ex) hb, by rw [ra.len, rb.len]; omega⟩
  · rw [List.getElem?_map] at hd
    cases e0 : (ds.zip es)[i]? with
    | none => rw [e0] at hd; cases hd
    | some p =>
      rw [e0] at hd
      cases hd
      obtain ⟨e1, e2⟩ := List.getElem?_zip_eq_some.mp e0
      obtain ⟨x, hx, rx⟩ := ra.get e1
      obtain ⟨y, hy, ry⟩ := rb.get e2
      have qa := ex_l (K := c.K) (e.trans I'.ex) ha
      have qb := ex_l (K := c.K) (e.trans I'.ex) hb
      refine ⟨⟨xs, ys, x, y, qa, qb, hx, hy⟩, fun z H'' ⟨T, x', y', q1, q2, q3, q4, q5⟩ => ?_⟩
      have w1 := q4 xs qa
      have w2 := q5 ys qb
      rw [hx] at w1
      rw [hy] at w2
      cases w1
      cases w2
      subst q1 q3
      have n := Step.new I' (o := .tup [x, y]) q2
      exact ⟨_, n, T, _, rfl, upd_same, _, _, rfl, (rx.mono e).mono n.g, _, _, rfl, (ry.mono e).mono n.g, rfl⟩
abbrev two01 : TA := tCons (tVar 0) (tCons (tVar 1) tNil)
theorem untwo {v w : V} {P : List V → Hp → Prop} (h : two01 [some v, some w] H P) : P [v, w] H := by
  obtain ⟨x, e, y, e2, h⟩ := h
  cases e
  cases e2
  exact h
theorem ea_two {c : Ct} {cs : Cells} {d d' : Dat} : EVL c cs [some d, some d'] two01 [d, d'] := ea_cons (ev_var rfl) (ea_cons (ev_var rfl) ea_nil)
theorem si_zip (h : SA K E tr er) : SI K E (iZipX K tr) (eZip er) := fun s σ G H n R q => by
  unfold eZip at q
  cases e : er s with
  | exc x s1 => rw [e] at q; exact .inl (h s σ G H n _ (by rw [e]; exact q))
  | bad => rw [e] at q; exact q.elim
  | ok ds s1 =>
    rw [e] at q
    simp only [Out.bind_ok] at q
    obtain ⟨out, e2, q2⟩ := q.lift
    unfold zipOf at e2
    split at e2
    · rename_i xs ys
      cases e2
      refine .inl (h s σ G H n _ ?_)
      rw [e]
      intro vs G1 H1 a1 r
      obtain ⟨u, v, rfl, r1, r2⟩ := r.two
      have z := f_zipT (c := ct K) (cs := []) (Δ := [some (.tup xs), some (.tup ys)]) ea_two [some u, some v] G1 H1 (sig2 r1 r2) a1.now.inn ct_raises R fun ds' J G2 H2 e3 st js => by subst e3; exact q2 J G2 H2 (a1.trans (After.step a1.now st)) js
      rcases z with z | z
      · unfold RZ.iZipA at z; exact untwo z
      · exfalso
        obtain ⟨x, y, e5, _⟩ := untwo z
        obtain ⟨a, _, rfl, _⟩ := r1
        cases e5
    · rename_i xs ys
      cases e2
      refine .inl (h s σ G H n _ ?_)
      rw [e]
      intro vs G1 H1 a1 r
      obtain ⟨u, v, rfl, r1, r2⟩ := r.two
      have z := f_zipL (c := ct K) (cs := []) (Δ := [some (.lst xs), some (.lst ys)]) ea_two [some u, some v] G1 H1 (sig2 r1 r2) a1.now.inn ct_raises R fun ds' J G2 H2 e3 st js => by subst e3; exact q2 J G2 H2 (a1.trans (After.step a1.now st)) js
      rcases z with z | z
      · unfold RZ.iZipA at z; exact untwo z
      · exfalso
        obtain ⟨x, y, e5, _⟩ := untwo z
        obtain ⟨a, _, rfl, _⟩ := r1
        cases e5
    · rename_i x y
      split at e2
      · rename_i hxy
        cases e2
        refine .inr (h s σ G H n _ ?_)
        rw [e]
        intro vs G1 H1 a1 r
        obtain ⟨u, v, rfl, r1, r2⟩ := r.two
        have z := f_zipS (c := ct K) (cs := []) (Δ := [some (.str x), some (.str y)]) hxy.1 hxy.2 ea_two [some u, some v] G1 H1 (sig2 r1 r2) a1.now.inn ct_raises R fun ds' J G2 H2 e3 st js => by subst e3; exact q2 J G2 H2 (a1.trans (After.step a1.now st)) js
        rcases z with z | z
        · exfalso
          unfold RZ.iZipA at z
          obtain ⟨a, b, xs, ys, e5, _⟩ := untwo z
          rw [show u = V.str x from r1] at e5
          cases e5
        · exact untwo z
      · cases e2
    · cases e2
def enumOf : List Dat → Option (List Dat)
  | [.lst ds] => some ((List.range ds.length).map fun (i : Nat) => Dat.tup [.int (i : Int), ds.getD i .non])
  | _ => none
@[simp] def eEnum (er : EvA) (s : Env) : Out (List Dat) := (er s).bind fun ds s1 => lift (enumOf ds) s1
theorem si_enum (h : SA K E tr er) : SI K E (iEnum K tr) (eEnum er) := fun s σ G H n R q =>
  h s σ G H n _ (by
    unfold eEnum at q
    cases e : er s with
    | exc x s1 => rw [e] at q; exact q
    | bad => rw [e] at q; exact q.elim
    | ok ds s1 =>
      rw [e] at q
      simp only [Out.bind_ok] at q
      obtain ⟨out, e2, q2⟩ := q.lift
      unfold enumOf at e2
      split at e2
      · rename_i xs
        cases e2
        intro vs G1 H1 a1 r
        obtain ⟨u, rfl, r1⟩ := r.only
        obtain ⟨x, e6, z⟩ := f_enum (c := ct K) (cs := []) (ta := tCons (tVar 0) tNil) (Δ := [some (.lst xs)]) (ea_cons (ev_var rfl) ea_nil) [some u] G1 H1 (sig1 r1) a1.now.inn ct_raises R fun ds' J G2 H2 e3 st js => by subst e3; exact q2 J G2 H2 (a1.trans (After.step a1.now st)) js
        cases e6
        exact z
      · cases e2)
@[simp] def rngOf : List Dat → Option (List Dat)
  | [.int j] => if j ≤ 100000 ∧ -100000 ≤ j then some ((List.range j.toNat).map fun (i : Nat) => Dat.int (i : Int)) else none
  | _ => none
@[simp] def eRng (er : EvA) (s : Env) : Out (List Dat) := (er s).bind fun ds s1 => lift (rngOf ds) s1
theorem si_rng (h : SA K E tr er) : SI K E (iRng1 tr) (eRng er) := fun s σ G H n R q =>
  h s σ G H n _ (by
    unfold eRng at q
    cases e : er s with
    | exc x s1 => rw [e] at q; exact q
    | bad => rw [e] at q; exact q.elim
    | ok ds s1 =>
      rw [e] at q
      simp only [Out.bind_ok] at q
      obtain ⟨out, e2, q2⟩ := q.lift
      unfold rngOf at e2
      split at e2
      · rename_i j
        split at e2
        · rename_i hj
          cases e2
          intro vs G1 H1 a1 r
          obtain ⟨u, rfl, r1⟩ := r.only
          obtain ⟨x, e6, z⟩ := f_rng1 (c := ct K) (cs := []) (ta := tCons (tVar 0) tNil) (Δ := [some (.int j)]) (Pn := fun m => m = j) (EVA.imp (ea_cons (ev_var rfl) ea_nil) fun d e => ⟨j, e, rfl⟩) (fun m e => by subst e; exact hj) [some u] G1 H1 (sig1 r1) a1.now.inn ct_raises R fun ds' J G2 H2 e3 st js => by
            obtain ⟨m, rfl, rfl⟩ := e3
            exact q2 J G2 H2 (a1.trans (After.step a1.now st)) js
          cases e6
          exact z
        · cases e2
      · cases e2)
/-! ### loops -/
def forS (eg : EvG) (body : EvS) : List Dat → EvS
  | [], s => .nx s
  | d :: ds, s => match eg d s with
    | .ok _ s1 => match body s1 with
      | .nx s2 => forS eg body ds s2
      | .ct s2 => forS eg body ds s2
      | .bk s2 => .nx s2
      | r => r
    | .exc x s1 => .xc x s1
    | .bad => .bad
@[simp] def sFor (ei : EvA) (eg : EvG) (body : EvS) (s : Env) : SR := SR.of (ei s) fun ds s1 => forS eg body ds s1
theorem ss_for {is : List Nat} {g : TG} {eg : EvG} {tb : TS} {body : EvS} (hw : SI K E wi ei) (hg : SG K E is g eg) (hb : SS K E tb body) : SS K E (tFor wi g tb) (sFor ei eg body) := fun e s σ G H n t D w =>
  hw s σ G H n _ (w.of t fun ds s1 J G1 H1 _ b tb1 js w1 => by
    refine ⟨fun i m σ' H' => m = ds.length - i ∧ i ≤ ds.length ∧ ∃ s' G', Ex G1 G' ∧ Now K s' σ' G' H' ∧ At e s' σ' G' H' ∧ Wants K E e D (forS eg body (ds.drop i) s'), ⟨_, rfl, Nat.zero_le _, s1, G1, Ex.refl _, b.now, tb1, w1⟩, ?_⟩
    rintro i m σ' H' ⟨rfl, hi, s', G', ex, n', t', w'⟩
    by_cases hlt : i < ds.length
    · have hget : ds[i]? = some ds[i] := List.getElem?_eq_getElem hlt
      obtain ⟨hgo, hy⟩ := (js [] G' H' ex n'.inn i).2 _ hget
      refine .inr ⟨hgo, fun σ2 H2 => ∃ s2 G2, Ex G1 G2 ∧ Now K s2 σ2 G2 H2 ∧ At e s2 σ2 G2 H2 ∧ Wants K E e D (forS eg body (ds.drop (i + 1)) s2), fun σ2 H2 ⟨s2, G2, a⟩ => ⟨ds.length - (i + 1), by omega, rfl, by omega, s2, G2, a⟩, fun x H'' y => ?_⟩
      obtain ⟨G'', st, rx⟩ := hy x H'' y
      have a1 := After.step n' st
      have t1 := t'.after a1
      rw [List.drop_eq_getElem_cons hlt] at w'
      unfold forS at w'
      refine hg s' σ' G'' H'' ds[i] x a1.now rx _ ?_
      cases h1 : eg ds[i] s' with
      | exc x s2 => rw [h1] at w'; exact fun cls dd σ2 G2 H2 tg r => w' cls dd σ2 G2 H2 tg.now (t1.tgt tg) r
      | bad => rw [h1] at w'; exact w'
      | ok u s2 =>
        rw [h1] at w'
        simp only at w'
        intro σ2 G2 H2 tg
        have t2 := t1.tgt tg
        have ex2 : Ex G1 G2 := (ex.trans st.g).trans tg.mv.g
        have ef : Ex e.F G1 := tb1.fl
        refine hb ⟨G1, e.O, e.G, e.H, e.pin⟩ s2 σ2 G2 H2 tg.now (t2.fr ex2) _ ?_
        cases h2 : body s2 with
        | nx s3 => rw [h2] at w'; exact fun σ3 G3 H3 n3 t3 => ⟨s3, G3, t3.fl, n3, t3.re ef, w'⟩
        | ct s3 => rw [h2] at w'; exact fun σ3 G3 H3 n3 t3 => ⟨s3, G3, t3.fl, n3, t3.re ef, w'⟩
        | bk s3 => rw [h2] at w'; exact fun σ3 G3 H3 n3 t3 => w' σ3 G3 H3 n3 (t3.re ef)
        | rt r s3 => rw [h2] at w'; exact fun v σ3 G3 H3 n3 t3 rr => w' v σ3 G3 H3 n3 (t3.re ef) rr
        | xc x s3 => rw [h2] at w'; exact fun cls dd σ3 G3 H3 n3 t3 rr => w' cls dd σ3 G3 H3 n3 (t3.re ef) rr
        | bad => rw [h2] at w'; exact w'
    · have ei' : i = ds.length := by omega
      subst ei'
      rw [List.drop_length] at w'
      exact .inl ⟨(js [] G' H' ex n'.inn _).1 rfl, w' σ' G' H' n' t'⟩)
end
end DV

set_option autoImplicit false
set_option linter.all false
set_option maxRecDepth 100000
set_option maxHeartbeats 1000000
/-! while; comprehensions; lists of one's own that change. -/
namespace DV
open PySem L2
section
variable {K : PySem.W.Frag} {E : XK} {te ta tb to : TE} {ea eb : EvD} {eo : EvO} {ev : EvV} {tt : TT} {et : EvT} {tr tk : TA} {er ek : EvA} {s s1 s' : Env} {σ : L2.St} {G H G1 H1 G2 H2 : Hp} {wi : TI} {ei : EvA}
def whileS (et : EvT) (body : EvS) : Nat → EvS
  | 0, _ => .bad
  | n + 1, s => SR.of (et s) fun c s1 => if c = true then match body s1 with
      | .nx s2 => whileS et body n s2
      | .ct s2 => whileS et body n s2
      | .bk s2 => .nx s2
      | r => r
    else .nx s1
def wFuel : Nat := 1000000000
@[simp] def sWhile (et : EvT) (body : EvS) (s : Env) : SR := whileS et body wFuel s
theorem ss_while {tb : TS} {body : EvS} (ht : STt K E tt et) (hb : SS K E tb body) : SS K E (tWhile tt tb) (sWhile et body) := fun e s σ G H n t D w => by
  refine ⟨fun m σ' H' => ∃ s' G', Now K s' σ' G' H' ∧ At e s' σ' G' H' ∧ Wants K E e D (whileS et body m s'), ⟨wFuel, s, G, n, t, w⟩, ?_⟩
  rintro m σ' H' ⟨s', G', n', t', w'⟩
  cases m with
  | zero => exact w'.elim
  | succ m =>
    unfold whileS at w'
    refine ht s' σ' G' H' n' _ (w'.of t' fun c s1 c' G1 H1 _ b tb1 r w1 => ?_)
    subst r
    cases c with
    | false => exact w1 σ' G1 H1 b.now tb1
    | true =>
      rw [if_pos rfl] at w1 ⊢
      refine ⟨fun σ2 H2 => ∃ s2 G2, Now K s2 σ2 G2 H2 ∧ At e s2 σ2 G2 H2 ∧ Wants K E e D (whileS et body m s2), fun σ2 H2 z => ⟨m, Nat.lt_succ_self m, z⟩, ?_⟩
      refine hb e s1 σ' G1 H1 b.now tb1 _ ?_
      cases h2 : body s1 with
      | nx s3 => rw [h2] at w1; exact fun σ3 G3 H3 n3 t3 => ⟨s3, G3, n3, t3, w1⟩
      | ct s3 => rw [h2] at w1; exact fun σ3 G3 H3 n3 t3 => ⟨s3, G3, n3, t3, w1⟩
      | bk s3 => rw [h2] at w1; exact w1
      | rt r s3 => rw [h2] at w1; exact w1
      | xc x s3 => rw [h2] at w1; exact w1
      | bad => rw [h2] at w1; exact w1
/-! ### comprehensions -/
@[simp] def wipeE (s : Env) : List Nat → Env
  | [] => s
  | v :: vs => (wipeE s vs).set v none
theorem wipeE_len (s : Env) : ∀ vs : List Nat, (wipeE s vs).length = s.length
  | [] => rfl
  | v :: vs => by unfold wipeE; rw [List.length_set, wipeE_len s vs]
theorem wipeE_out {i : Nat} : ∀ {vs : List Nat}, i ∉ vs → (wipeE s vs)[i]? = s[i]?
  | [], _ => rfl
  | v :: vs, h => by
    rw [List.mem_cons, not_or] at h
    unfold wipeE
    rw [List.getElem?_set_ne (fun z => h.1 z.symm)]
    exact wipeE_out h.2
theorem wipeE_in {i : Nat} {o : Ow} : ∀ {vs : List Nat}, (wipeE s vs)[i]? = some (some o) → i ∉ vs ∧ s[i]? = some (some o)
  | [], h => ⟨(fun z => nomatch z), h⟩
  | v :: vs, h => by
    unfold wipeE at h
    by_cases z : v = i
    · subst z
      by_cases l : v < (wipeE s vs).length
      · rw [List.getElem?_set_self l] at h; cases h
      · rw [List.set_eq_of_length_le (Nat.le_of_not_lt l)] at h
        exact absurd (lt_of_some h) l
    · rw [List.getElem?_set_ne z] at h
      obtain ⟨h1, h2⟩ := wipeE_in h
      exact ⟨fun w => (List.mem_cons.mp w).elim (fun w => z w.symm) h1, h2⟩
theorem now_wipe (n : Now K s σ G H) (vs : List Nat) : Now K (wipeE s vs) (wipe σ vs) G H :=
  ⟨n.ex, by rw [wipe_length, wipeE_len]; exact n.len, fun i x h => let ⟨h1, h2⟩ := wipeE_in h; let ⟨v, h3, h4⟩ := n.dat i x h2; ⟨v, by rw [wipe_get h1]; exact h3, h4⟩,
    fun i p k h => let ⟨h1, h2⟩ := wipeE_in h; let ⟨a, h3, h4⟩ := n.own i p k h2; ⟨a, by rw [wipe_get h1]; exact h3, h4⟩,
    fun i j p q k l a h1 h2 h3 h4 => by
      obtain ⟨i1, i2⟩ := wipeE_in h1
      obtain ⟨j1, j2⟩ := wipeE_in h2
      rw [wipe_get i1] at h3
      rw [wipe_get j1] at h4
      exact n.sep i j p q k l a i2 j2 h3 h4⟩
theorem now_unwipe {vs : List Nat} (n : Now K (wipeE s vs) (wipe σ vs) G H) : Now K (wipeE s vs) σ G H :=
  ⟨n.ex, by rw [← n.len, wipe_length], fun i x h => let ⟨h1, h2⟩ := wipeE_in h; let ⟨v, h3, h4⟩ := n.dat i x h; ⟨v, by rw [← wipe_get h1]; exact h3, h4⟩,
    fun i p k h => let ⟨h1, h2⟩ := wipeE_in h; let ⟨a, h3, h4⟩ := n.own i p k h; ⟨a, by rw [← wipe_get h1]; exact h3, h4⟩,
    fun i j p q k l a h1 h2 h3 h4 => n.sep i j p q k l a h1 h2 (by rw [wipe_get (wipeE_in h1).1]; exact h3) (by rw [wipe_get (wipeE_in h2).1]; exact h4)⟩
theorem own_unwipe {vs : List Nat} {a : Addr} (h : OwnA (wipeE s vs) (wipe σ vs) a) : OwnA s σ a := by
  obtain ⟨i, p, k, h1, h2⟩ := h
  obtain ⟨h3, h4⟩ := wipeE_in h1
  exact ⟨i, p, k, h4, by rw [← wipe_get h3]; exact h2⟩
def lcS (eg : EvG) (et : EvT) (ea : EvD) (vs : List Nat) : List Dat → Env → List Dat → Out (List Dat)
  | [], s, acc => .ok acc s
  | d :: ds, s, acc => match eg d (wipeE s vs) with
    | .ok _ s1 => match et s1 with
      | .ok b s2 => if b = true then match ea s2 with
          | .ok x s3 => if acc.length < 100000 then lcS eg et ea vs ds s3 (acc ++ [x]) else .bad
          | _ => .bad
        else lcS eg et ea vs ds s2 acc
      | _ => .bad
    | _ => .bad
@[simp] def notC : Option (Option Ow) → Bool
  | some (some (.c _ _)) => false
  | _ => true
@[simp] def eLc (ei : EvA) (eg : EvG) (et : EvT) (ea : EvD) (vs : List Nat) (s : Env) : Out Cel := (ei s).bind fun ds s1 => if (vs.all fun i => notC s1[i]?) = true then match lcS eg et ea vs ds s1 [] with
    | .ok out s2 => .ok (.lst out) (wipeE s2 vs)
    | _ => .bad
  else .bad
theorem lt_wipe {vs : List Nat} (h : (vs.all fun i => notC s[i]?) = true) (l : Lt (wipeE s vs) (wipeE s' vs)) : Lt s (wipeE s' vs) :=
  ⟨by rw [wipeE_len, ← wipeE_len s' vs, l.len, wipeE_len], fun i p k e => let ⟨k0, h0⟩ := l.own i p k e; ⟨k0, (wipeE_in h0).2⟩, fun i k e => by
    have hi : i ∉ vs := fun z => by
      have := List.all_eq_true.mp h i z
      rw [e] at this
      cases this
    exact l.pin i k (by rw [wipeE_out hi]; exact e)⟩
theorem so_lc {g : TG} {eg : EvG} {is vs : List Nat} (hw : SI K E wi ei) (hg : SG K E0 is g eg) (ht : STt K E0 tt et) (he : SD K E0 te ea) (hv : ∀ i ∈ is, i ∈ vs) : SO K E (tLc wi g tt te vs) (eLc ei eg et ea vs) := fun s σ G H n Q q => by
  refine hw s σ G H n _ ?_
  unfold eLc at q
  cases e : ei s with
  | exc x s1 => rw [e] at q; exact q
  | bad => rw [e] at q; exact q
  | ok ds s1 =>
    rw [e] at q
    simp only [Out.bind_ok] at q
    intro J G1 H1 a1 js D hD
    split at q
    · rename_i hnc
      have hD0 : H D = none := a1.mv.fresh hD
      -- what is wanted of the end
      let Fin : Out (List Dat) → Prop := fun o => Gets K E σ s G H (fun G' H' k v => ∃ a, v = .ref a ∧ H a = none ∧ Hold K G' H' a k) (match o with
        | .ok out s2 => .ok (Cel.lst out) (wipeE s2 vs)
        | _ => .bad) Q
      let O : Addr → Prop := fun a => OwnA (wipeE s1 vs) (wipe σ vs) a ∨ a = D
      have m0 : Mv O G1 H1 G1 (upd H1 D (.lst [])) := Mv.aside a1.now.ex hD
      have nD : ¬ OwnA (wipeE s1 vs) (wipe σ vs) D := fun z => a1.now.notOwn hD (own_unwipe z)
      refine ⟨fun i m H' => m = ds.length - i ∧ i ≤ ds.length ∧ ∃ s' G' xs acc, Now K (wipeE s' vs) (wipe σ vs) G' H' ∧ Lt (wipeE s1 vs) (wipeE s' vs) ∧ Mv O G1 H1 G' H' ∧ G' D = none ∧ H' D = some (.lst xs) ∧ Reps K G' acc xs ∧ Fin (lcS eg et ea vs (ds.drop i) s' acc), ⟨_, rfl, Nat.zero_le _, s1, G1, [], [], ?_, Lt.refl _, m0, a1.now.ex.none_of hD, upd_same, rfl, q⟩, ?_⟩
      · exact (now_wipe a1.now vs).mv (Mv.aside a1.now.ex hD)
      · rintro i m H' ⟨rfl, hi, s', G', xs, acc, n', l', mv', gD, hx, rs, fin⟩
        by_cases hlt : i < ds.length
        · have hget : ds[i]? = some ds[i] := List.getElem?_eq_getElem hlt
          obtain ⟨hgo, hy⟩ := (js [] G' H' mv'.g n'.inn i).2 _ hget
          refine .inr ⟨hgo, fun H2 => ∃ s2 G2 xs acc, Now K (wipeE s2 vs) (wipe σ vs) G2 H2 ∧ Lt (wipeE s1 vs) (wipeE s2 vs) ∧ Mv O G1 H1 G2 H2 ∧ G2 D = none ∧ H2 D = some (.lst xs) ∧ Reps K G2 acc xs ∧ Fin (lcS eg et ea vs (ds.drop (i + 1)) s2 acc), fun H2 ⟨s2, G2, a⟩ => ⟨ds.length - (i + 1), by omega, rfl, by omega, s2, G2, a⟩, fun x H'' y => ?_⟩
          obtain ⟨G'', st, rx⟩ := hy x H'' y
          have aS := After.step n' st
          rw [List.drop_eq_getElem_cons hlt] at fin
          unfold lcS at fin
          refine hg (wipeE s' vs) (wipe σ vs) G'' H'' ds[i] x aS.now rx _ ?_
          cases h1 : eg ds[i] (wipeE s' vs) with
          | exc x s2 => rw [h1] at fin; exact fin.elim
          | bad => rw [h1] at fin; exact fin.elim
          | ok u s2 =>
            rw [h1] at fin
            simp only at fin
            intro σ2 G2 H2 tg
            have wip : wipe σ2 vs = wipe σ vs := wipe_same ((tg.now.len.trans (tg.len.trans (l'.len.trans (wipeE_len s1 vs)))).trans a1.now.len.symm) tg.out hv
            refine ⟨wip, ?_⟩
            -- from here on within the block
            have oo : ∀ a, OwnA s2 σ2 a → OwnA (wipeE s1 vs) (wipe σ vs) a := fun a z => l'.ownA (tg.own a z)
            have mv2 : Mv O G1 H1 G2 H2 := (mv'.trans (Mv.ofStep st)).trans (tg.mv.weak fun a z => .inl (l'.ownA z))
            have fD : ∀ {s3 : Env} {G3 H3 : Hp}, After K σ2 s2 G2 H2 s3 G3 H3 → Now K (wipeE s3 vs) (wipe σ vs) G3 H3 ∧ Lt (wipeE s1 vs) (wipeE s3 vs) ∧ Mv O G1 H1 G3 H3 ∧ G3 D = none ∧ H3 D = some (.lst xs) ∧ Ex G' G3 := fun {s3 G3 H3} a3 => by
              have noD : ¬ OwnA s2 σ2 D := fun z => nD (oo D z)
              have tD : ¬ OwnA (wipeE s' vs) (wipe σ vs) D := fun z => nD (l'.ownA z)
              have x2 : H'' D = some (.lst xs) := st.h D _ (fun z => z) hx
              have x3 : H2 D = some (.lst xs) := tg.mv.h D _ tD x2
              have g2 : G'' D = none := st.d D (by rw [hx]; exact fun z => nomatch z) (by rw [hx]; exact fun _ z => nomatch z) gD
              have g3 : G2 D = none := tg.mv.d D tD (by rw [x2]; exact fun z => nomatch z) (by rw [x2]; exact fun _ z => nomatch z) g2
              refine ⟨by have := now_wipe a3.now vs; rw [wip] at this; exact this, ⟨?_, ?_, ?_⟩, mv2.trans (a3.mv.weak fun a z => .inl (oo a z)), a3.mv.d D noD (by rw [x3]; exact fun z => nomatch z) (by rw [x3]; exact fun _ z => nomatch z) g3, a3.mv.h D _ noD x3, (st.g.trans tg.mv.g).trans a3.mv.g⟩
              · rw [wipeE_len, a3.lt.len, tg.len]; exact l'.len
              · intro j p k h
                obtain ⟨hj, h2⟩ := wipeE_in h
                obtain ⟨k0, h3⟩ := a3.lt.own j p k h2
                obtain ⟨k1, h4, _⟩ := tg.ix j p k0 h3
                exact l'.own j p k1 h4
              · intro j k h
                obtain ⟨k1, h2⟩ := l'.pin j k h
                obtain ⟨⟨k2, h3⟩, _⟩ := tg.pin j k1 h2
                obtain ⟨k3, h4⟩ := a3.lt.pin j k2 h3
                exact ⟨k3, by rw [wipeE_out (wipeE_in h2).1]; exact h4⟩
            refine ht s2 σ2 G2 H2 tg.now _ ?_
            cases h2 : et s2 with
            | exc x s3 => rw [h2] at fin; exact fin.elim
            | bad => rw [h2] at fin; exact fin.elim
            | ok b s3 =>
              rw [h2] at fin
              simp only at fin
              intro c G3 H3 a3 r3
              subst r3
              cases b with
              | false =>
                obtain ⟨f1, f2, f3, f4, f5, f6⟩ := fD a3
                exact ⟨s3, G3, xs, acc, f1, f2, f3, f4, f5, rs.mono f6, by simpa using fin⟩
              | true =>
                simp only [if_true] at fin ⊢
                refine he s3 σ2 G3 H3 a3.now _ ?_
                cases h3 : ea s3 with
                | exc x s4 => rw [h3] at fin; exact fin.elim
                | bad => rw [h3] at fin; exact fin.elim
                | ok d s4 =>
                  rw [h3] at fin
                  simp only at fin
                  intro v G4 H4 a4 r4
                  obtain ⟨f1, f2, f3, f4, f5, f6⟩ := fD (a3.trans a4)
                  split at fin
                  · rename_i hl
                    have rs4 := rs.mono f6
                    refine ⟨xs, f5, Nat.lt_of_lt_of_le (by rw [rs.len]; exact hl) (by decide), s4, G4, xs ++ [v], acc ++ [d], ?_, f2, ?_, f4, upd_same, rs4.app (Reps.one r4), fin⟩
                    · exact f1.mvO (Mv.writ f1.ex f4) fun a z w => by
                        subst w
                        exact nD (f2.ownA z)
                    · exact f3.trans ((Mv.writ f1.ex f4).weak fun a z => .inr z)
                  · exact fin.elim
        · have ei' : i = ds.length := by omega
          subst ei'
          rw [List.drop_length] at fin
          refine .inl ⟨(js [] G' H' mv'.g n'.inn _).1 rfl, ?_⟩
          refine fin _ G' H' ⟨now_unwipe n', a1.mv.trans ?_, ?_⟩ ⟨D, rfl, hD0, gD, _, hx, xs, rfl, rs⟩
          · refine ⟨mv'.g, mv'.i, fun a o no h => mv'.h a o (fun z => z.elim (fun z => no (a1.lt.ownA (own_unwipe z))) fun z => ?_) h, fun a no h1 h2 h3 => mv'.d a (fun z => z.elim (fun z => no (a1.lt.ownA (own_unwipe z))) fun z => h1 (by rw [z]; exact hD)) h1 h2 h3, mv'.e⟩
            rw [z, hD] at h
            cases h
          · exact a1.lt.trans (lt_wipe hnc l')
    · exact q.elim
end
end DV

set_option autoImplicit false
set_option linter.all false
set_option maxRecDepth 100000
set_option maxHeartbeats 1000000
/-! Lists and dicts of one's own that change. -/
namespace DV
open PySem PySem.Spec PyProof.Rows L2
section
variable {K : PySem.W.Frag} {E : XK} {te ta tb to : TE} {ea eb : EvD} {eo : EvO} {ev : EvV} {tt : TT} {et : EvT} {tr tk : TA} {er ek : EvA} {s s1 s' : Env} {σ : L2.St} {G H G1 H1 G2 H2 : Hp} {wi : TI} {ei : EvA}
/-- a cell's slot -/
theorem Now.at_ (n : Now K s σ G H) {i : Nat} {p : Bool} {k : Cel} (e : s[i]? = some (some (.c p k))) : ∃ a o, σ[i]? = some (some (.ref a)) ∧ H a = some o ∧ RepO K G k o := let ⟨a, h1, _, o, h2, h3⟩ := n.own i p k e; ⟨a, o, h1, h2, h3⟩
def isL : Option (Option Ow) → Bool
  | some (some (.c _ (.lst _))) => true
  | _ => false
/-- x.append(e) -/
@[simp] def eApp (i : Nat) (ea : EvD) (s : Env) : Out Dat := match s[i]? with
  | some (some (.c _ (.lst _))) => (ea s).bind fun d s1 => match s1[i]? with
    | some (some (.c p (.lst ds))) => if ds.length < 100000 then .ok .non (s1.set i (some (.c p (.lst (ds ++ [d]))))) else .bad
    | _ => .bad
  | _ => .bad
theorem sd_app {i : Nat} (h : SD K E te ea) : SD K E (tBM K "list" rAppend (tVar i) (tCons te tNil)) (eApp i ea) := fun s σ G H n Q q => by
  unfold eApp at q
  split at q
  · rename_i p0 ds0 e0
    obtain ⟨a, o0, ha, ho0, xs0, rfl, _⟩ := n.at_ e0
    refine ⟨_, ha, .inl ⟨rfl, _, .inl (.inl ho0)⟩, h s σ G H n _ (q.seq fun d s1 y G1 H1 _ a1 r q1 => ?_)⟩
    split at q1
    · rename_i p ds e1
      split at q1
      · rename_i hl
        obtain ⟨b, o, hb, ho, xs, rfl, rs⟩ := a1.now.at_ e1
        rw [ha] at hb
        cases hb
        refine ⟨a, xs, y, rfl, rfl, ho, Nat.lt_of_lt_of_le (by rw [rs.len]; exact hl) (by decide), ?_⟩
        exact q1 .non G1 _ (a1.now.write (k2 := .lst (ds ++ [d])) e1 ha ⟨_, rfl, rs.app (Reps.one r)⟩) rfl
      · exact q1.elim
    · exact q1.elim
  · exact q.elim
/-- x.pop() -/
@[simp] def ePop (i : Nat) (s : Env) : Out Dat := match s[i]? with
  | some (some (.c p (.lst ds))) => match ds[ds.length - 1]? with
    | some d => .ok d (s.set i (some (.c p (.lst ds.dropLast))))
    | none => .bad
  | _ => .bad
theorem sd_pop {i : Nat} : SD K E (tBM0 K "list" rPop (tVar i)) (ePop i) := fun s σ G H n Q q => by
  unfold ePop at q
  split at q
  · rename_i p ds e0
    obtain ⟨a, o, ha, ho, xs, rfl, rs⟩ := n.at_ e0
    split at q
    · rename_i d hd
      obtain ⟨y, hy, ry⟩ := rs.get hd
      have rd : Reps K G ds.dropLast xs.dropLast := by
        rw [List.dropLast_eq_take, List.dropLast_eq_take, rs.len]
        exact rs.take _
      refine ⟨_, ha, .inl ⟨rfl, _, .inl (.inl ho)⟩, a, xs, y, rfl, rfl, ho, by rw [rs.len]; exact hy, ?_⟩
      exact q y G _ (n.write (k2 := .lst ds.dropLast) e0 ha ⟨_, rfl, rd⟩) ry
    · exact q.elim
  · exact q.elim
/-- x.pop(e) -/
@[simp] def eraseD (ds : List Dat) (z : Int) : Option (Dat × List Dat) := if -(2 ^ 63) ≤ z ∧ z < 2 ^ 63 then (seqIndex? z ds.length).bind fun k => (ds[k]?).map fun d => (d, ds.eraseIdx k) else none
@[simp] def ePopAt (i : Nat) (ea : EvD) (s : Env) : Out Dat := match s[i]? with
  | some (some (.c _ (.lst _))) => (ea s).bind fun d s1 => match s1[i]?, d with
    | some (some (.c p (.lst ds))), .int z => match eraseD ds z with
      | some (x, r) => .ok x (s1.set i (some (.c p (.lst r))))
      | none => .bad
    | _, _ => .bad
  | _ => .bad
theorem Reps.erase : ∀ {ds : List Dat} {vs : List V} (n : Nat), Reps K H ds vs → Reps K H (ds.eraseIdx n) (vs.eraseIdx n)
  | [], vs, n, h => by cases (show vs = [] from h); exact rfl
  | x :: ds, vs, 0, h => by
    obtain ⟨v, r, rfl, h2, h3⟩ := h
    exact h3
  | x :: ds, vs, n + 1, h => by
    obtain ⟨v, r, rfl, h2, h3⟩ := h
    exact ⟨v, r.eraseIdx n, rfl, h2, Reps.erase n h3⟩
theorem sd_popAt {i : Nat} (h : SD K E te ea) : SD K E (tBM K "list" rPopAt (tVar i) (tCons te tNil)) (ePopAt i ea) := fun s σ G H n Q q => by
  unfold ePopAt at q
  split at q
  · rename_i p0 ds0 e0
    obtain ⟨a, o0, ha, ho0, xs0, rfl, _⟩ := n.at_ e0
    refine ⟨_, ha, .inl ⟨rfl, _, .inl (.inl ho0)⟩, h s σ G H n _ (q.seq fun d s1 y G1 H1 _ a1 r q1 => ?_)⟩
    split at q1
    · rename_i p ds z e1 _
      split at q1
      · rename_i x rest e2
        unfold eraseD at e2
        split at e2
        · rename_i hz
          obtain ⟨b, o, hb, ho, xs, rfl, rs⟩ := a1.now.at_ e1
          rw [ha] at hb
          cases hb
          cases e3 : seqIndex? z ds.length with
          | none => rw [e3] at e2; cases e2
          | some k =>
            rw [e3] at e2
            cases e4 : ds[k]? with
            | none => simp [e4] at e2
            | some d =>
              simp only [e4, Option.bind_some, Option.map_some] at e2
              cases e2
              obtain ⟨w, hw, rw_⟩ := rs.get e4
              refine ⟨a, xs, z, k, w, rfl, by rw [show y = V.int z from r], ho, hz.1, hz.2, by rw [rs.len]; exact e3, hw, ?_⟩
              exact q1 w G1 _ (a1.now.write (k2 := .lst (ds.eraseIdx k)) e1 ha ⟨_, rfl, rs.erase k⟩) rw_
        · cases e2
      · exact q1.elim
    · exact q1.elim
  · exact q.elim
/-- x.extend(a new list) -/
@[simp] def eExt (i : Nat) (eo : EvO) (s : Env) : Out Dat := match s[i]? with
  | some (some (.c _ (.lst _))) => (eo s).bind fun k s1 => match s1[i]?, k with
    | some (some (.c p (.lst ds))), .lst es => if ds.length + es.length ≤ 100000 then .ok .non (s1.set i (some (.c p (.lst (ds ++ es))))) else .bad
    | _, _ => .bad
  | _ => .bad
theorem sd_ext {i : Nat} (h : SO K E te eo) : SD K E (tBM K "list" rExtend (tVar i) (tCons te tNil)) (eExt i eo) := fun s σ G H n Q q => by
  unfold eExt at q
  split at q
  · rename_i p0 ds0 e0
    obtain ⟨a, o0, ha, ho0, xs0, rfl, _⟩ := n.at_ e0
    refine ⟨_, ha, .inl ⟨rfl, _, .inl (.inl ho0)⟩, h s σ G H n _ (q.seq fun d s1 y G1 H1 _ a1 r q1 => ?_)⟩
    obtain ⟨l, rfl, hl0, gl, ol, hol, rl⟩ := r
    split at q1
    · rename_i p ds es e1 _
      split at q1
      · rename_i hl
        obtain ⟨b, o, hb, ho, xs, rfl, rs⟩ := a1.now.at_ e1
        rw [ha] at hb
        cases hb
        obtain ⟨zs, rfl, rz⟩ := rl
        refine ⟨a, l, xs, zs, rfl, rfl, ho, hol, Nat.le_trans (by rw [rs.len, rz.len]; exact hl) (by decide), ?_⟩
        exact q1 .non G1 _ (a1.now.write (k2 := .lst (ds ++ es)) e1 ha ⟨_, rfl, rs.app rz⟩) rfl
      · exact q1.elim
    · exact q1.elim
  · exact q.elim
/-- x[e] = v -/
@[simp] def gSubL (i : Nat) (ea : EvD) (d : Dat) (s : Env) : Out Unit := eHas i (fun s => (ea s).bind fun z s1 => match s1[i]?, z with
  | some (some (.c p (.lst ds))), .int z => match L2.ixN ds.length z with
    | some j => .ok () (s1.set i (some (.c p (.lst (ds.set j d)))))
    | none => .bad
  | _, _ => .bad) s
theorem Reps.set {d : Dat} {v : V} (r : Rep K H d v) : ∀ {ds : List Dat} {vs : List V} (n : Nat), Reps K H ds vs → Reps K H (ds.set n d) (vs.set n v)
  | [], vs, n, h => by cases (show vs = [] from h); exact rfl
  | x :: ds, vs, 0, h => by
    obtain ⟨w, rest, rfl, h2, h3⟩ := h
    exact ⟨v, rest, rfl, r, h3⟩
  | x :: ds, vs, n + 1, h => by
    obtain ⟨w, rest, rfl, h2, h3⟩ := h
    exact ⟨w, rest.set n v, rfl, h2, Reps.set r n h3⟩
theorem After.tgt {is : List Nat} (a : After K σ s G H s' G2 H2) : Tgt K is σ s G H σ s' G2 H2 :=
  ⟨a.now, a.mv, fun b z => a.lt.ownA z, fun i k e => ⟨a.lt.pin i k e, rfl⟩, fun _ _ => rfl, a.lt.len, fun i p k h => let ⟨k0, h0⟩ := a.lt.own i p k h; ⟨k0, h0, rfl⟩⟩
theorem sg_subL {i : Nat} (h : SD K E te ea) : SG K E [] (gSub (tVar i) te rSetL) (gSubL i ea) := fun s σ G H d v n r Q q => by
  unfold gSubL eHas at q
  split at q
  · rename_i o e0
    try dsimp only at q
    obtain ⟨w, hw⟩ := n.val e0
    refine ⟨w, hw, h s σ G H n _ ?_⟩
    cases e1 : ea s with
    | exc x s1 => rw [e1] at q; exact fun cls dd G2 H2 a r2 => q cls dd σ G2 H2 a.tgt r2
    | bad => rw [e1] at q; exact q.elim
    | ok z s1 =>
      rw [e1] at q
      simp only [Out.bind_ok] at q
      intro y G1 H1 a1 r1
      split at q
      · rename_i p ds z e2
        split at q
        · rename_i j hj
          obtain ⟨b, o, hb, ho, xs, rfl, rs⟩ := a1.now.at_ e2
          rw [hw] at hb
          cases hb
          refine ⟨b, xs, z, j, rfl, r1, ho, by rw [rs.len]; exact hj, ?_⟩
          exact q σ G1 _ (a1.trans (a1.now.write (k2 := .lst (ds.set j d)) e2 hw ⟨_, rfl, Reps.set (r.mono a1.mv.g) j rs⟩)).tgt
        · exact q.elim
      · exact q.elim
  · exact q.elim
/-! dicts -/
@[simp] def keyOf : Dat → Option Key
  | .int i => some (.inl i)
  | .str x => some (.inr x)
  | _ => none
@[simp] def keysOf : List Dat → Option (List Key)
  | [] => some []
  | d :: ds => match keyOf d, keysOf ds with
    | some k, some ks => some (k :: ks)
    | _, _ => none
theorem keyOf_ok {d : Dat} {k : Key} {v : V} (h : keyOf d = some k) (r : Rep K G d v) : v = kV k := by
  cases d <;> first
    | (cases h; exact r)
    | cases h
theorem keysOf_ok : ∀ {ds : List Dat} {ks : List Key} {vs : List V}, keysOf ds = some ks → Reps K G ds vs → vs = ks.map kV
  | [], ks, vs, h, r => by cases h; exact r
  | d :: ds, ks, vs, h, r => by
    obtain ⟨v, w, rfl, r1, r2⟩ := r
    unfold keysOf at h
    split at h
    · rename_i k ks' h1 h2
      cases h
      rw [keyOf_ok h1 r1, keysOf_ok h2 r2]
      rfl
    · cases h
/-- a dict's answer at a key -/
def look {κ : Type} [DecidableEq κ] : List κ → List Dat → κ → Option Dat
  | k :: ks, d :: ds, x => if k = x then some d else look ks ds x
  | _, _, _ => none
theorem look_ok {κ : Type} [DecidableEq κ] : ∀ {ks : List κ} {ds : List Dat} {xs : List V} {x : κ}, Reps K G ds xs → ks.length = xs.length → (∀ d, look ks ds x = some d → ∃ v, valV (ks.zip xs) x = some v ∧ Rep K G d v) ∧ (look ks ds x = none → valV (ks.zip xs) x = none)
  | [], ds, xs, x, r, h => ⟨fun d z => (by cases ds <;> cases z), fun _ => rfl⟩
  | k :: ks, [], xs, x, r, h => by cases (show xs = [] from r); cases h
  | k :: ks, d :: ds, xs, x, r, h => by
    obtain ⟨v, w, rfl, r1, r2⟩ := r
    by_cases q : k = x
    · refine ⟨fun d' z => ?_, fun z => ?_⟩
      · unfold look at z
        rw [if_pos q] at z
        cases z
        exact ⟨v, by rw [List.zip_cons_cons, valV_pos q], r1⟩
      · unfold look at z
        rw [if_pos q] at z
        cases z
    · obtain ⟨h1, h2⟩ := look_ok (x := x) r2 (show ks.length = w.length by simpa using h)
      refine ⟨fun d' z => ?_, fun z => ?_⟩
      · unfold look at z
        rw [if_neg q] at z
        obtain ⟨u, h3, h4⟩ := h1 d' z
        exact ⟨u, by rw [List.zip_cons_cons, valV_neg (show ¬ (k, v).1 = x from q)]; exact h3, h4⟩
      · unfold look at z
        rw [if_neg q] at z
        rw [List.zip_cons_cons, valV_neg (show ¬ (k, v).1 = x from q)]
        exact h2 z
/-- what a dict answers at a key: none, it is no dict; some none, nothing is there -/
@[simp] def dlook : Dat → Dat → Option (Option Dat)
  | .dct ks ds, y => (keyOf y).map fun k => look ks ds k
  | .dcT ks ds, .tup ys => (keysOf ys).map fun k => look ks ds k
  | _, _ => none
theorem dlook_ok {d y : Dat} {o : Option Dat} {u v : V} (h : dlook d y = some o) (ex : Ex G H) (rd : Rep K G d u) (ry : Rep K G y v) : ∃ a w, u = .ref a ∧ DGet H a v w ∧ ((∃ x z, o = some x ∧ w = some z ∧ Rep K G x z) ∨ (o = none ∧ w = none)) := by
  unfold dlook at h
  split at h
  · rename_i ks ds
    cases e : keyOf y with
    | none => rw [e] at h; cases h
    | some k =>
      rw [e] at h
      cases h
      obtain ⟨a, xs, rfl, hg, hl, rs⟩ := rd
      obtain ⟨h1, h2⟩ := look_ok (x := k) rs hl
      refine ⟨a, valV (ks.zip xs) k, rfl, .inl ⟨_, k, .inl (ex _ _ hg), keyOf_ok e ry, rfl⟩, ?_⟩
      cases e2 : look ks ds k with
      | none => exact .inr ⟨e2, h2 e2⟩
      | some x => obtain ⟨z, h3, h4⟩ := h1 x e2; exact .inl ⟨x, z, e2, h3, h4⟩
  · rename_i ks ds ys
    cases e : keysOf ys with
    | none => rw [e] at h; cases h
    | some k =>
      rw [e] at h
      cases h
      obtain ⟨a, xs, rfl, hg, hl, rs⟩ := rd
      obtain ⟨b, vs, rfl, hb, rk⟩ := ry
      rw [keysOf_ok e rk] at hb
      obtain ⟨h1, h2⟩ := look_ok (x := k) rs hl
      refine ⟨a, valV (ks.zip xs) k, rfl, .inr ⟨_, k, b, .inl (ex _ _ hg), rfl, ex _ _ hb, rfl⟩, ?_⟩
      cases e2 : look ks ds k with
      | none => exact .inr ⟨e2, h2 e2⟩
      | some x => obtain ⟨z, h3, h4⟩ := h1 x e2; exact .inl ⟨x, z, e2, h3, h4⟩
  · cases h
/-- d[k], k in d, k not in d, d.get(k), d.get(k, e): over data -/
@[simp] def eDGet (ea eb : EvD) (s : Env) : Out Dat := (ea s).bind fun d s1 => (eb s1).bind fun y s2 => match dlook d y with
  | some (some x) => .ok x s2
  | _ => .bad
theorem sd_dget (ha : SD K E ta ea) (hb : SD K E tb eb) : SD K E (tDGet ta tb) (eDGet ea eb) := fun s σ G H n Q q =>
  ha s σ G H n _ (q.seq fun d s1 u G1 H1 _ a1 r1 q1 => hb s1 σ G1 H1 a1.now _ (q1.seq fun y s2 v G2 H2 _ a2 r2 q2 => by
    split at q2
    · rename_i x e
      obtain ⟨a, w, rfl, hd, hw⟩ := dlook_ok e a2.now.ex (r1.mono a2.mv.g) r2
      rcases hw with ⟨x', z, e1, rfl, rz⟩ | ⟨e1, _⟩
      · cases e1
        exact ⟨a, z, rfl, hd, q2 z G2 H2 (After.refl a2.now) rz⟩
      · cases e1
    · exact q2.elim))
@[simp] def eDIn (neg : Bool) (eb ea : EvD) (s : Env) : Out Dat := (eb s).bind fun y s1 => (ea s1).bind fun d s2 => match dlook d y with
  | some o => .ok (.bl (if neg = true then !o.isSome else o.isSome)) s2
  | none => .bad
theorem din_some {o : Option Dat} {w : Option V} (h : (∃ x z, o = some x ∧ w = some z ∧ Rep K G x z) ∨ (o = none ∧ w = none)) : o.isSome = w.isSome := by
  rcases h with ⟨x, z, rfl, rfl, _⟩ | ⟨rfl, rfl⟩ <;> rfl
theorem sd_din (hb : SD K E tb eb) (ha : SD K E ta ea) : SD K E (tDIn tb ta) (eDIn false eb ea) := fun s σ G H n Q q =>
  hb s σ G H n _ (q.seq fun y s1 v G1 H1 _ a1 r1 q1 => ha s1 σ G1 H1 a1.now _ (q1.seq fun d s2 u G2 H2 _ a2 r2 q2 => by
    split at q2
    · rename_i o e
      obtain ⟨a, w, rfl, hd, hw⟩ := dlook_ok e a2.now.ex r2 (r1.mono a2.mv.g)
      exact ⟨a, w, rfl, hd, q2 _ G2 H2 (After.refl a2.now) (by rw [din_some hw]; rfl)⟩
    · exact q2.elim))
theorem sd_dnotin (hb : SD K E tb eb) (ha : SD K E ta ea) : SD K E (tDNotIn tb ta) (eDIn true eb ea) := fun s σ G H n Q q =>
  hb s σ G H n _ (q.seq fun y s1 v G1 H1 _ a1 r1 q1 => ha s1 σ G1 H1 a1.now _ (q1.seq fun d s2 u G2 H2 _ a2 r2 q2 => by
    split at q2
    · rename_i o e
      obtain ⟨a, w, rfl, hd, hw⟩ := dlook_ok e a2.now.ex r2 (r1.mono a2.mv.g)
      exact ⟨a, w, rfl, hd, q2 _ G2 H2 (After.refl a2.now) (by rw [din_some hw]; rfl)⟩
    · exact q2.elim))
/-- a new dict -/
@[simp] def eDNewT (s : Env) : Out Cel := .ok (.dcT [] []) s
theorem so_dnewT : SO K E tDNewT eDNewT := fun s σ G H n Q q p hp =>
  q _ G _ (After.mvN n (Mv.aside n.ex hp)) ⟨p, rfl, hp, n.ex.none_of hp, _, upd_same, [], rfl, rfl, rfl⟩
@[simp] def eDNewK (s : Env) : Out Cel := .ok (.dct [] []) s
theorem so_dnewK : SO K E tDNewK eDNewK := fun s σ G H n Q q p hp =>
  q _ G _ (After.mvN n (Mv.aside n.ex hp)) ⟨p, rfl, hp, n.ex.none_of hp, _, upd_same, [], rfl, rfl, rfl⟩
def repD {κ : Type} [DecidableEq κ] (x : κ) (d : Dat) : List κ → List Dat → List Dat
  | k :: ks, e :: es => (if k = x then d else e) :: repD x d ks es
  | _, _ => []
def putD {κ : Type} [DecidableEq κ] (ks : List κ) (ds : List Dat) (x : κ) (d : Dat) : List κ × List Dat := if hasK ks x = true then (ks, repD x d ks ds) else (ks ++ [x], ds ++ [d])
theorem repD_ok {κ : Type} [DecidableEq κ] {x : κ} {d : Dat} {v : V} (rv : Rep K G d v) : ∀ {ks : List κ} {ds : List Dat} {xs : List V}, Reps K G ds xs → ks.length = xs.length → ∃ ys, (ks.zip xs).map (fun kv => if kv.1 = x then (kv.1, v) else kv) = ks.zip ys ∧ ks.length = ys.length ∧ Reps K G (repD x d ks ds) ys
  | [], ds, xs, r, h => ⟨[], rfl, rfl, by
    have e : repD x d ([] : List κ) ds = [] := by cases ds <;> rfl
    rw [e]; rfl⟩
  | k :: ks, [], xs, r, h => by cases (show xs = [] from r); cases h
  | k :: ks, e :: ds, xs, r, h => by
    obtain ⟨w, ws, rfl, r1, r2⟩ := r
    obtain ⟨ys, h1, h2, h3⟩ := repD_ok (x := x) rv r2 (show ks.length = ws.length by simpa using h)
    by_cases q : k = x
    · refine ⟨v :: ys, ?_, by simp [h2], ⟨v, ys, rfl, by rw [if_pos q]; exact rv, h3⟩⟩
      rw [List.zip_cons_cons, List.map_cons, h1, if_pos (show (k, w).1 = x from q)]
      rfl
    · refine ⟨w :: ys, ?_, by simp [h2], ⟨w, ys, rfl, by rw [if_neg q]; exact r1, h3⟩⟩
      rw [List.zip_cons_cons, List.map_cons, h1, if_neg (show ¬ (k, w).1 = x from q)]
      rfl
theorem putD_ok {κ : Type} [DecidableEq κ] {x : κ} {d : Dat} {v : V} (rv : Rep K G d v) {ks : List κ} {ds : List Dat} {xs : List V} (r : Reps K G ds xs) (h : ks.length = xs.length) : ∃ ys, putK (ks.zip xs) x v = (putD ks ds x d).1.zip ys ∧ (putD ks ds x d).1.length = ys.length ∧ Reps K G (putD ks ds x d).2 ys := by
  unfold putK putD
  rw [valV_any, valV_zipS h]
  cases e : hasK ks x with
  | true =>
    simp only [if_true]
    exact repD_ok rv r h
  | false =>
    simp only [Bool.false_eq_true, if_false]
    exact ⟨xs ++ [v], by rw [List.zip_append h]; rfl, by simp [h], r.app (Reps.one rv)⟩
@[simp] def dput : Cel → Dat → Dat → Option Cel
  | .dct ks ds, y, d => if ks.length < 100000 then (keyOf y).map fun k => .dct (putD ks ds k d).1 (putD ks ds k d).2 else none
  | .dcT ks ds, .tup ys, d => if ks.length < 100000 then (keysOf ys).map fun k => .dcT (putD ks ds k d).1 (putD ks ds k d).2 else none
  | _, _, _ => none
theorem dput_ok {c c' : Cel} {y d : Dat} {o : HO} {u v : V} {a : Addr} (h : dput c y d = some c') (ex : Ex G H) (ho : H a = some o) (rc : RepO K G c o) (ry : Rep K G y u) (rd : Rep K G d v) : ∃ o', DPut H a u v (upd H a o') ∧ RepO K G c' o' := by
  unfold dput at h
  split at h
  · rename_i ks ds
    split at h
    · rename_i hl
      cases e : keyOf y with
      | none => rw [e] at h; cases h
      | some k =>
        rw [e] at h
        cases h
        obtain ⟨xs, rfl, hx, rs⟩ := rc
        obtain ⟨ys, h1, h2, h3⟩ := putD_ok (x := k) rd rs hx
        exact ⟨_, .inl ⟨_, k, ho, keyOf_ok e ry, Nat.lt_of_le_of_lt (by rw [List.length_zip]; omega : (ks.zip xs).length ≤ 100000) (by decide), rfl⟩, ys, by rw [h1], h2, h3⟩
    · cases h
  · rename_i ks ds ys
    split at h
    · rename_i hl
      cases e : keysOf ys with
      | none => rw [e] at h; cases h
      | some k =>
        rw [e] at h
        cases h
        obtain ⟨xs, rfl, hx, rs⟩ := rc
        obtain ⟨b, vs, rfl, hb, rk⟩ := ry
        rw [keysOf_ok e rk] at hb
        obtain ⟨ys, h1, h2, h3⟩ := putD_ok (x := k) rd rs hx
        exact ⟨_, .inr ⟨_, k, b, ho, rfl, ex _ _ hb, Nat.lt_of_le_of_lt (by rw [List.length_zip]; omega : (ks.zip xs).length ≤ 100000) (by decide), rfl⟩, ys, by rw [h1], h2, h3⟩
    · cases h
  · cases h
/-- d[e] = v -/
@[simp] def gSubD (i : Nat) (ea : EvD) (d : Dat) (s : Env) : Out Unit := eHas i (fun s => (ea s).bind fun y s1 => match s1[i]? with
  | some (some (.c p c)) => match dput c y d with
    | some c' => .ok () (s1.set i (some (.c p c')))
    | none => .bad
  | _ => .bad) s
theorem sg_subD {i : Nat} (h : SD K E te ea) : SG K E [] (gSub (tVar i) te rSetD) (gSubD i ea) := fun s σ G H d v n r Q q => by
  unfold gSubD eHas at q
  split at q
  · rename_i o e0
    try dsimp only at q
    obtain ⟨w, hw⟩ := n.val e0
    refine ⟨w, hw, h s σ G H n _ ?_⟩
    cases e1 : ea s with
    | exc x s1 => rw [e1] at q; exact fun cls dd G2 H2 a r2 => q cls dd σ G2 H2 a.tgt r2
    | bad => rw [e1] at q; exact q.elim
    | ok z s1 =>
      rw [e1] at q
      simp only [Out.bind_ok] at q
      intro y G1 H1 a1 r1
      split at q
      · rename_i p c e2
        split at q
        · rename_i c' hc
          obtain ⟨b, o, hb, ho, rc⟩ := a1.now.at_ e2
          rw [hw] at hb
          cases hb
          obtain ⟨o', h1, h2⟩ := dput_ok hc a1.now.ex ho rc r1 (r.mono a1.mv.g)
          exact ⟨b, _, rfl, h1, q σ G1 _ (a1.trans (a1.now.write (k2 := c') e2 hw h2)).tgt⟩
        · exact q.elim
      · exact q.elim
  · exact q.elim
/-! {"k": e, ..} -/
def EvP := Env → Out (List (Dat × Dat))
def SP2 (K : PySem.W.Frag) (E : XK) (trs : List (TE × TE)) (ev : EvP) : Prop := ∀ s σ G H, Now K s σ G H → ∀ Q : List (V × V) → Hp → Prop, Gets K E σ s G H (fun G' _ ds vs => Reps K G' (ds.map (·.1)) (vs.map (·.1)) ∧ Reps K G' (ds.map (·.2)) (vs.map (·.2))) (ev s) Q → tPairs trs σ H Q
@[simp] def ePn (s : Env) : Out (List (Dat × Dat)) := .ok [] s
@[simp] def ePc (ea eb : EvD) (er : EvP) (s : Env) : Out (List (Dat × Dat)) := (ea s).bind fun a s1 => (eb s1).bind fun b s2 => (er s2).bind fun r s3 => .ok ((a, b) :: r) s3
theorem sp_nil : SP2 K E [] ePn := fun s σ G H n Q q => q [] G H (After.refl n) ⟨rfl, rfl⟩
theorem sp_cons {trs : List (TE × TE)} {er : EvP} (ha : SD K E ta ea) (hb : SD K E tb eb) (hr : SP2 K E trs er) : SP2 K E ((ta, tb) :: trs) (ePc ea eb er) := fun s σ G H n Q q =>
  ha s σ G H n _ (q.seq fun a s1 x G1 H1 _ a1 rx q1 => hb s1 σ G1 H1 a1.now _ (q1.seq fun b s2 y G2 H2 _ a2 ry q2 => hr s2 σ G2 H2 a2.now _ (q2.seq fun r s3 z G3 H3 _ a3 rz q3 =>
    q3 ((x, y) :: z) G3 H3 (After.refl a3.now) ⟨⟨x, _, rfl, (rx.mono a2.mv.g).mono a3.mv.g, rz.1⟩, ⟨y, _, rfl, ry.mono a3.mv.g, rz.2⟩⟩)))
@[simp] def dispOf (ps : List (Dat × Dat)) : Option (List Key × List Dat) := (keysOf (ps.map (·.1))).map fun ks => (ks.zip (ps.map (·.2))).foldl (fun acc p => putD acc.1 acc.2 p.1 p.2) ([], [])
theorem merge_ok : ∀ {ks : List Key} {ds : List Dat} {xs : List V} {as : List Key} {bs : List Dat} {cs : List V}, Reps K G ds xs → ks.length = xs.length → Reps K G bs cs → as.length = cs.length →
    ∃ ys, mergeK (as.zip cs) (ks.zip xs) = ((ks.zip ds).foldl (fun acc p => putD acc.1 acc.2 p.1 p.2) (as, bs)).1.zip ys ∧ ((ks.zip ds).foldl (fun acc p => putD acc.1 acc.2 p.1 p.2) (as, bs)).1.length = ys.length ∧ Reps K G ((ks.zip ds).foldl (fun acc p => putD acc.1 acc.2 p.1 p.2) (as, bs)).2 ys
  | [], ds, xs, as, bs, cs, r, h, rb, hb => by
    rw [List.zip_nil_left]
    exact ⟨cs, by cases xs <;> rfl, hb, rb⟩
  | k :: ks, [], xs, as, bs, cs, r, h, rb, hb => by cases (show xs = [] from r); cases h
  | k :: ks, d :: ds, xs, as, bs, cs, r, h, rb, hb => by
    obtain ⟨v, w, rfl, r1, r2⟩ := r
    obtain ⟨ys, h1, h2, h3⟩ := putD_ok (x := k) r1 rb hb
    obtain ⟨zs, h4, h5, h6⟩ := merge_ok (ks := ks) (as := (putD as bs k d).1) (bs := (putD as bs k d).2) r2 (show ks.length = w.length by simpa using h) h3 h2
    refine ⟨zs, ?_, h5, h6⟩
    show mergeK (putK (as.zip cs) k v) (ks.zip w) = _
    rw [h1, h4]
    rfl
@[simp] def eDisp (er : EvP) (s : Env) : Out Cel := (er s).bind fun ps s1 => match dispOf ps with
  | some (ks, ds) => if ps.length ≤ 15 then .ok (.dct ks ds) s1 else .bad
  | none => .bad
theorem so_disp {trs : List (TE × TE)} {er : EvP} (h : SP2 K E trs er) : SO K E (tDisp trs) (eDisp er) := fun s σ G H n Q q p hp => by
  have m0 : Mv nOne G H G (upd H p (.dK [])) := Mv.aside n.ex hp
  have a0 := After.mvN n m0
  refine h s σ G _ a0.now _ ?_
  unfold eDisp at q
  cases e : er s with
  | exc x s1 =>
    rw [e] at q
    exact fun cls dd G1 H1 a1 r => q cls dd G1 H1 (a0.trans a1) r
  | bad => rw [e] at q; exact q
  | ok ps s1 =>
    rw [e] at q
    simp only [Out.bind_ok] at q
    intro vs G1 H1 a1 r
    split at q
    · rename_i ks ds hd
      split at q
      · rename_i hl
        have no : ¬ OwnA s σ p := n.notOwn hp
        have hx : H1 p = some (.dK []) := a1.mv.h p _ no upd_same
        have gp : G1 p = none := a1.mv.d p no (by rw [upd_same]; exact fun z => nomatch z) (by rw [upd_same]; exact fun _ z => nomatch z) (n.ex.none_of hp)
        unfold dispOf at hd
        cases e2 : keysOf (ps.map (·.1)) with
        | none => rw [e2] at hd; cases hd
        | some kk =>
          rw [e2] at hd
          simp only [Option.map_some, Option.some.injEq] at hd
          have ek := keysOf_ok e2 r.1
          have lk : kk.length = vs.length := by have := congrArg List.length ek; simpa using this.symm
          have lk2 : kk.length = (vs.map (·.2)).length := by simpa using lk
          obtain ⟨ys, h1, h2, h3⟩ := merge_ok (ks := kk) (as := []) (bs := []) (cs := []) r.2 lk2 rfl rfl
          rw [hd] at h1 h2 h3
          refine ⟨hx, kk.zip (vs.map (·.2)), ?_, ?_, ?_⟩
          · rw [List.map_zip_eq_zipWith]
            clear h1 h2 h3 hd e2
            have : ∀ (kk : List Key) (vs : List (V × V)), vs.map (·.1) = kk.map kV → vs = List.zipWith (fun a b => (kV a, b)) kk (vs.map (·.2)) := by
              intro kk vs
              induction vs generalizing kk with
              | nil => intro h; cases kk <;> simp_all
              | cons v vs ih =>
                intro h
                cases kk with
                | nil => cases h
                | cons k kk =>
                  simp only [List.map_cons, List.cons.injEq] at h
                  rw [List.map_cons, List.zipWith_cons_cons, ← ih kk h.2, ← h.1]
            exact this kk vs ek
          · rw [List.length_zip, lk, List.length_map, Nat.min_self]
            have := r.2.len
            simp at this
            omega
          · rw [show mergeK [] (kk.zip (vs.map (·.2))) = ks.zip ys from h1]
            refine q _ G1 _ ((a0.trans a1).trans (After.refl a1.now) |> fun a => ⟨a.now.mvO (Mv.writ a.now.ex gp) fun b z w => no (by subst w; exact a1.lt.ownA z), ⟨a.mv.g, a.now.ex.out gp, fun b u nb z => ?_, a.mv.d, fun b z => ?_⟩, a.lt⟩) ⟨p, rfl, hp, gp, _, upd_same, ys, rfl, h2, h3⟩
            · rw [upd_ne (ne_of_none z hp)]; exact a.mv.h b u nb z
            · by_cases w : b = p
              · rw [w, upd_same]; exact fun z => nomatch z
              · rw [upd_ne w]; exact a.mv.e b z
      · exact q.elim
    · exact q.elim
end
end DV

set_option autoImplicit false
set_option linter.all false
set_option maxRecDepth 100000
set_option maxHeartbeats 1000000
/-! Built-in operations as plain functions over data. -/
namespace DV
open PySem PySem.Spec PyProof.Rows L2
/-! ### operators -/
@[simp] def aAdd : Dat → Dat → Option Dat
  | .int i, .int j => some (.int (i + j))
  | .str x, .str y => if x.length + y.length ≤ sizeLine then some (.str (x ++ y)) else none
  | .lst x, .lst y => if x.length + y.length ≤ 100000 then some (.lst (x ++ y)) else none
  | _, _ => none
@[simp] def aSub : Dat → Dat → Option Dat
  | .int i, .int j => some (.int (i - j))
  | _, _ => none
@[simp] def aMul : Dat → Dat → Option Dat
  | .int i, .int j => if i.natAbs.log2 + j.natAbs.log2 < 1000000 then some (.int (i * j)) else none
  | _, _ => none
@[simp] def aFd : Dat → Dat → Option Dat
  | .int i, .int j => if j ≠ 0 ∧ j.natAbs.log2 < 9000 then some (.int (i.fdiv j)) else none
  | _, _ => none
@[simp] def aMod : Dat → Dat → Option Dat
  | .int i, .int j => if j ≠ 0 then some (.int (i.fmod j)) else none
  | _, _ => none
@[simp] def aPow : Dat → Dat → Option Dat
  | .int i, .int j => if 0 ≤ j ∧ j ≤ 1000000 ∧ i.natAbs < 2 ^ 64 then some (.int (i ^ j.toNat)) else none
  | _, _ => none
@[simp] def aEq : Dat → Dat → Option Dat
  | .int i, .int j => some (.bl (decide (i = j)))
  | .str i, .str j => some (.bl (decide (i = j)))
  | .bl i, .bl j => some (.bl (decide (i = j)))
  | a, b => if shp a = true ∧ shp b = true then some (.bl (PyData.eqv (toP a) (toP b))) else none
@[simp] def aNe : Dat → Dat → Option Dat
  | .int i, .int j => some (.bl (!decide (i = j)))
  | .str i, .str j => some (.bl (!decide (i = j)))
  | .bl i, .bl j => some (.bl (!decide (i = j)))
  | a, b => if shp a = true ∧ shp b = true then some (.bl (!PyData.eqv (toP a) (toP b))) else none
@[simp] def aLt : Dat → Dat → Option Dat
  | .int i, .int j => some (.bl (decide (i < j)))
  | .str i, .str j => some (.bl (decide (i.cps.toList < j.cps.toList)))
  | _, _ => none
@[simp] def aLe : Dat → Dat → Option Dat
  | .int i, .int j => some (.bl (decide (i ≤ j)))
  | _, _ => none
@[simp] def aGt : Dat → Dat → Option Dat
  | .int i, .int j => some (.bl (decide (j < i)))
  | _, _ => none
@[simp] def aGe : Dat → Dat → Option Dat
  | .int i, .int j => some (.bl (decide (j ≤ i)))
  | _, _ => none
@[simp] def aIs : Dat → Dat → Option Dat
  | .bl i, .bl j => some (.bl (decide (i = j)))
  | a, .non => some (.bl (nonD a))
  | _, _ => none
@[simp] def aIsNot : Dat → Dat → Option Dat
  | .bl i, .bl j => some (.bl (!decide (i = j)))
  | a, .non => some (.bl (!nonD a))
  | _, _ => none
/-- a text of one sign -/
def sgnOf (x : Str) : Option Nat := match x.cps.toList with
  | [k] => some k
  | _ => none
theorem sgnOf_ok {x : Str} {k : Nat} (h : sgnOf x = some k) : x = sgn k := by
  unfold sgnOf at h
  split at h
  · rename_i e
    cases h
    exact PySem.W.str_of_cps e
  · cases h
def flatD : Dat → Bool
  | .non => true
  | .bl _ => true
  | .int _ => true
  | .str _ => true
  | _ => false
def anyEq (ds : List Dat) (a : Dat) : Bool := ds.any fun z => PyData.eqv (toP z) (toP a)
def aInB : Dat → Dat → Option Bool
  | .str x, .str z => match sgnOf x with
    | some k => some (decide (k ∈ z.cps.toList))
    | none => some (!(Builtin.Str.occurrences z x 0 z.length 1).isEmpty)
  | a, .lst ds => if shp a = true ∧ shp (.lst ds) = true then some (anyEq ds a) else none
  | a, .tup ds => if flatD a = true ∧ ds.all flatD = true then some (anyEq ds a) else none
  | _, _ => none
@[simp] def aIn (a b : Dat) : Option Dat := (aInB a b).map Dat.bl
@[simp] def aNotIn (a b : Dat) : Option Dat := (aInB a b).map fun c => .bl (!c)
@[simp] def aIx : Dat → Dat → Option Dat
  | .lst ds, .int i => L2.atI ds i
  | .tup ds, .int i => L2.atI ds i
  | .str z, .int i => if z.length ≤ sizeLine then (L2.atI z.cps.toList i).map fun k => .str (sgn k) else none
  | _, _ => none
section
variable {K : PySem.W.Frag}
theorem os_add : OpS K (bAdd K) aAdd := fun a b d h => by
  unfold aAdd at h
  split at h
  · cases h; exact d_add
  · split at h
    · rename_i hl; cases h; exact d_addS hl
    · cases h
  · split at h
    · rename_i hl; cases h; exact d_addL hl
    · cases h
  · cases h
theorem os_sub : OpS K bSub aSub := fun a b d h => by
  unfold aSub at h
  split at h
  · cases h; exact d_sub
  · cases h
theorem os_mul : OpS K bMul aMul := fun a b d h => by
  unfold aMul at h
  split at h
  · split at h
    · rename_i hl; cases h; exact d_mul hl
    · cases h
  · cases h
theorem os_fd : OpS K bFd aFd := fun a b d h => by
  unfold aFd at h
  split at h
  · split at h
    · rename_i hl; cases h; exact d_fd hl
    · cases h
  · cases h
theorem os_mod : OpS K bMod aMod := fun a b d h => by
  unfold aMod at h
  split at h
  · split at h
    · rename_i hl; cases h; exact d_mod hl
    · cases h
  · cases h
theorem os_pow : OpS K bPow aPow := fun a b d h => by
  unfold aPow at h
  split at h
  · split at h
    · rename_i hl; cases h; exact d_pow hl
    · cases h
  · cases h
theorem os_eq : OpS K (bEq K) aEq := fun a b d h => by
  unfold aEq at h
  split at h
  · cases h; exact d_eqI
  · cases h; exact d_eqS
  · cases h; exact d_eqB
  · split at h
    · rename_i hl; cases h; exact d_eqD hl.1 hl.2
    · cases h
theorem os_ne : OpS K (bNe K) aNe := fun a b d h => by
  unfold aNe at h
  split at h
  · cases h; exact d_neI
  · cases h; exact d_neS
  · cases h; exact d_neB
  · split at h
    · rename_i hl; cases h; exact d_neD hl.1 hl.2
    · cases h
theorem os_lt : OpS K bLtA aLt := fun a b d h => by
  unfold aLt at h
  split at h
  · cases h; exact d_ltI
  · cases h; exact d_ltS
  · cases h
theorem os_le : OpS K bLe aLe := fun a b d h => by
  unfold aLe at h
  split at h
  · cases h; exact d_le
  · cases h
theorem os_gt : OpS K bGt aGt := fun a b d h => by
  unfold aGt at h
  split at h
  · cases h; exact d_gt
  · cases h
theorem os_ge : OpS K bGe aGe := fun a b d h => by
  unfold aGe at h
  split at h
  · cases h; exact d_ge
  · cases h
theorem os_is : OpS K bIs aIs := fun a b d h => by
  unfold aIs at h
  split at h
  · cases h; exact d_isB
  · cases h; exact d_isN
  · cases h
theorem os_isNot : OpS K bIsNot aIsNot := fun a b d h => by
  unfold aIsNot at h
  split at h
  · cases h; exact d_isNotB
  · cases h; exact d_isNotN
  · cases h
def vOf : Dat → V
  | .bl b => .bl b
  | .int i => .int i
  | .str x => .str x
  | _ => .non
theorem vOf_ok {G : Hp} {d : Dat} {v : V} (h : flatD d = true) (r : Rep K G d v) : v = vOf d ∧ flatV v = true := by
  cases d <;> first
    | (cases h; done)
    | (have r' : v = _ := r; subst r'; exact ⟨rfl, rfl⟩)
theorem eqv_flat {a b : Dat} (ha : flatD a = true) (hb : flatD b = true) : eqV (vOf a) (vOf b) = PyData.eqv (toP a) (toP b) := by
  cases a <;> first
    | (cases ha; done)
    | (cases b <;> first
        | (cases hb; done)
        | (simp only [vOf, toP, eqV, PyData.eqv]))
theorem reps_flat {G : Hp} : ∀ {ds : List Dat} {vs : List V}, ds.all flatD = true → Reps K G ds vs → vs.all flatV = true ∧ ∀ a, flatD a = true → inV (vOf a) vs = anyEq ds a
  | [], vs, h, r => by
    cases (show vs = [] from r)
    exact ⟨rfl, fun _ _ => rfl⟩
  | d :: ds, vs, h, r => by
    obtain ⟨v, w, rfl, r1, r2⟩ := r
    obtain ⟨h1, h2⟩ := Bool.and_eq_true_iff.mp (show (flatD d && ds.all flatD) = true from h)
    obtain ⟨e, f⟩ := vOf_ok h1 r1
    obtain ⟨h3, h4⟩ := reps_flat h2 r2
    refine ⟨by rw [List.all_cons, f, h3]; rfl, fun a ha => ?_⟩
    have h5 := h4 a ha
    unfold inV anyEq at h5 ⊢
    rw [List.any_cons, List.any_cons, h5, e, eqv_flat h1 ha]
theorem os_in : OpS K (bIn K) aIn := fun a b d h => by
  unfold aIn aInB at h
  split at h
  · rename_i x z
    cases e : sgnOf x with
    | none =>
      rw [e] at h
      cases h
      exact fun G H u v I R ra rb Q q => .inr (.inl ⟨x, z, ra, rb, q _ _ G H rfl (Step.refl I) rfl⟩)
    | some k =>
      rw [e] at h
      cases h
      rw [sgnOf_ok e]
      exact d_inC
  · split at h
    · rename_i hl; cases h; exact d_inD hl.1 hl.2
    · cases h
  · rename_i ds
    split at h
    · rename_i hl
      cases h
      intro G H x y I R ra rb Q q
      obtain ⟨p, xs, rfl, hp, rs⟩ := rb
      obtain ⟨e, f⟩ := vOf_ok hl.1 ra
      obtain ⟨h1, h2⟩ := reps_flat hl.2 rs
      refine .inr (.inr (.inl ⟨p, xs, rfl, .inr (SqT.of (I.ex _ _ hp)), f, h1, ?_⟩))
      rw [e, h2 a hl.1]
      exact q _ _ G H rfl (Step.refl I) rfl
    · cases h
  · cases h
theorem os_notIn : OpS K (bNotIn K) aNotIn := fun a b d h => by
  unfold aNotIn aInB at h
  split at h
  · rename_i x z
    cases e : sgnOf x with
    | none =>
      rw [e] at h
      cases h
      exact fun G H u v I R ra rb Q q => .inr (.inl ⟨x, z, ra, rb, q _ _ G H rfl (Step.refl I) rfl⟩)
    | some k =>
      rw [e] at h
      cases h
      rw [sgnOf_ok e]
      exact d_notInC
  · split at h
    · rename_i hl; cases h; exact d_notInD hl.1 hl.2
    · cases h
  · rename_i ds
    split at h
    · rename_i hl
      cases h
      intro G H x y I R ra rb Q q
      obtain ⟨p, xs, rfl, hp, rs⟩ := rb
      obtain ⟨e, f⟩ := vOf_ok hl.1 ra
      obtain ⟨h1, h2⟩ := reps_flat hl.2 rs
      refine .inr (.inr (.inl ⟨p, xs, rfl, .inr (SqT.of (I.ex _ _ hp)), f, h1, ?_⟩))
      rw [e, h2 a hl.1]
      exact q _ _ G H rfl (Step.refl I) rfl
    · cases h
  · cases h
theorem os_ix : OpS K (rIx K) aIx := fun a b d h => by
  unfold aIx at h
  split at h
  · exact d_ixL h
  · exact d_ixT h
  · split at h
    · rename_i z i hl
      cases e : L2.atI z.cps.toList i with
      | none => rw [e] at h; cases h
      | some k => rw [e] at h; cases h; exact d_ixS hl e
    · cases h
  · cases h
@[simp] def aNeg : Dat → Option Dat
  | .int i => some (.int (-i))
  | _ => none
theorem us_neg : UnS K bNeg aNeg := fun a d h => by
  unfold aNeg at h
  split at h
  · cases h; exact d_neg
  · cases h
/-! ### built-in functions -/
@[simp] def aLen : List Dat → Option Dat
  | [.lst ds] => some (.int ds.length)
  | [.tup ds] => some (.int ds.length)
  | [.str z] => if z.length ≤ sizeLine then some (.int z.length) else none
  | _ => none
theorem d_lenS' {c : Ct} {cs : Cells} {z : PySem.Str} (hz : z.length ≤ sizeLine) : RCD c cs (bLen c.K) [.str z] (.int z.length) := fun G H xs I R rs Q q => by
  obtain ⟨x, rfl, rx⟩ := rs.only
  rw [show x = V.str z from rx]
  exact ⟨_, z.length, rfl, ⟨hz, rfl⟩, q _ _ G H rfl (Step.refl I) rfl⟩
theorem cs_len : CbS K (bLen K) aLen := fun as d h => by
  unfold aLen at h
  split at h
  · cases h; exact d_lenL
  · cases h; exact d_lenT
  · split at h
    · rename_i hl; cases h; exact d_lenS' hl
    · cases h
  · cases h
@[simp] def aAbs : List Dat → Option Dat
  | [.int i] => some (.int i.natAbs)
  | _ => none
theorem cs_abs : CbS K bAbs aAbs := fun as d h => by
  unfold aAbs at h
  split at h
  · cases h; exact d_abs
  · cases h
@[simp] def aMax : List Dat → Option Dat
  | [.int i, .int j] => some (.int (max i j))
  | _ => none
theorem cs_max : CbS K bMax aMax := fun as d h => by
  unfold aMax at h
  split at h
  · cases h; exact d_max
  · cases h
@[simp] def aMin : List Dat → Option Dat
  | [.int i, .int j] => some (.int (min i j))
  | _ => none
theorem cs_min : CbS K bMin aMin := fun as d h => by
  unfold aMin at h
  split at h
  · cases h; exact d_min
  · cases h
@[simp] def aInt : List Dat → Option Dat
  | [.int i] => some (.int i)
  | [.bl k] => some (.int (if k then 1 else 0))
  | _ => none
theorem cs_int : CbS K bInt aInt := fun as d h => by
  unfold aInt at h
  split at h
  · cases h; exact d_intI
  · cases h; exact d_intB
  · cases h
@[simp] def aStr : List Dat → Option Dat
  | [.int i] => if i.natAbs.log2 < 1920 then some (.str (txt i)) else none
  | _ => none
theorem cs_str : CbS K bStr aStr := fun as d h => by
  unfold aStr at h
  split at h
  · split at h
    · rename_i hl; cases h; exact d_str hl
    · cases h
  · cases h
@[simp] def aTuple : List Dat → Option Dat
  | [.lst ds] => some (.tup ds)
  | [.tup ds] => some (.tup ds)
  | _ => none
theorem cs_tuple : CbS K (bTup K) aTuple := fun as d h => by
  unfold aTuple at h
  split at h
  · cases h; exact d_tupL
  · cases h; exact d_tupT
  · cases h
@[simp] def aDivmod : List Dat → Option Dat
  | [.int i, .int j] => if 0 < j ∧ Builtin.divisionGoesByPylong i j = false then some (.tup [.int (i / j), .int (i % j)]) else none
  | _ => none
theorem cs_divmod : CbS K bDivmod aDivmod := fun as d h => by
  unfold aDivmod at h
  split at h
  · split at h
    · rename_i hl; cases h; exact d_divmod hl
    · cases h
  · cases h
def boolsOf : List Dat → Option (List Bool)
  | [] => some []
  | .bl b :: ds => (boolsOf ds).map fun r => b :: r
  | _ => none
theorem boolsOf_ok : ∀ {ds : List Dat} {bs : List Bool}, boolsOf ds = some bs → ds = bs.map Dat.bl
  | [], bs, h => by cases h; rfl
  | d :: ds, bs, h => by
    unfold boolsOf at h
    split at h
    · rename_i e; cases e
    · rename_i b ds' e
      cases e
      cases e2 : boolsOf ds with
      | none => rw [e2] at h; cases h
      | some r => rw [e2] at h; cases h; rw [boolsOf_ok e2]; rfl
    · cases h
@[simp] def aAll : List Dat → Option Dat
  | [.lst ds] => (boolsOf ds).map fun bs => .bl (bs.all id)
  | _ => none
theorem cs_all : CbS K (rAll K) aAll := fun as d h => by
  unfold aAll at h
  split at h
  · rename_i ds
    cases e : boolsOf ds with
    | none => rw [e] at h; cases h
    | some bs => rw [e] at h; cases h; rw [boolsOf_ok e]; exact d_all
  · cases h
theorem d_any {c : Ct} {cs : Cells} {bs : List Bool} : RCD c cs (rAny c.K) [.lst (bs.map Dat.bl)] (.bl (bs.any id)) := fun G H xs I R rs Q q => by
  obtain ⟨x, rfl, a, vs, rfl, h, r⟩ := rs.only
  have e : vs = bs.map V.bl := by
    clear q R h rs
    induction bs generalizing vs with
    | nil => exact r
    | cons b bs ih =>
      obtain ⟨v, rest, rfl, h2, h3⟩ := r
      rw [ih rest h3, show v = V.bl b from h2]
      rfl
  subst e
  exact ⟨a, bs, rfl, ex_l I.ex h, q _ _ G H rfl (Step.refl I) rfl⟩
@[simp] def aAny : List Dat → Option Dat
  | [.lst ds] => (boolsOf ds).map fun bs => .bl (bs.any id)
  | _ => none
theorem cs_any : CbS K (rAny K) aAny := fun as d h => by
  unfold aAny at h
  split at h
  · rename_i ds
    cases e : boolsOf ds with
    | none => rw [e] at h; cases h
    | some bs => rw [e] at h; cases h; rw [boolsOf_ok e]; exact d_any
  · cases h
def aRepr : List Dat → Option Dat
  | [.lst ds] => if rpr (.lst ds) = true ∧ (toP (.lst ds)).shown.length ≤ sizeLine then some (.str (toP (.lst ds)).shown) else none
  | [.tup ds] => if rpr (.tup ds) = true ∧ (toP (.tup ds)).shown.length ≤ sizeLine then some (.str (toP (.tup ds)).shown) else none
  | _ => none
theorem cs_repr : CbS K (rReprD K) aRepr := fun as d h => by
  unfold aRepr at h
  split at h
  · split at h
    · rename_i hl; cases h; exact d_repr hl.1 hl.2
    · cases h
  · split at h
    · rename_i hl; cases h; exact d_reprT hl.1 hl.2
    · cases h
  · cases h
theorem CbS.or {r r' : List V → Hp → VK → Prop} {f g : List Dat → Option Dat} (h : CbS K r f) (h' : CbS K r' g) : CbS K (fun xs H Q => r xs H Q ∨ r' xs H Q) (fun as => match f as with
    | some d => some d
    | none => g as) := fun as d e => by
  dsimp only at e
  cases e2 : f as with
  | some x =>
    rw [e2] at e
    cases e
    exact RCP.inl (h as d e2)
  | none =>
    rw [e2] at e
    exact RCP.inr (h' as d e)
/-! isinstance of built-in classes -/
def tyN : Dat → Option String
  | .non => some "NoneType"
  | .bl _ => some "bool"
  | .int _ => some "int"
  | .str _ => some "str"
  | .tup _ => some "tuple"
  | .lst _ => some "list"
  | .dct _ _ => some "dict"
  | _ => none
def knownT : List String := ["int", "bool", "str", "list", "tuple", "dict"]
def isiB (t n : String) : Bool := t == n || (t == "bool" && n == "int")
def isiOf (d : Dat) (ns : List String) : Option Bool := if ns.all (fun n => knownT.contains n) = true then (tyN d).map fun t => ns.any fun n => isiB t n else none
def tysOf : List Dat → Option (List String)
  | [] => some []
  | .obj (.ty n) :: ds => (tysOf ds).map fun r => n :: r
  | _ => none
def aIsi : List Dat → Option Dat
  | [d, .obj (.ty n)] => (isiOf d [n]).map Dat.bl
  | [d, .tup cs] => (tysOf cs).bind fun ns => (isiOf d ns).map Dat.bl
  | _ => none
theorem kit_ok {d : Dat} {t n : String} (h : tyN d = some t) (hn : knownT.contains n = true) : PySem.W.kitOne K (.type t) (.type n) = some (isiB t n) := by
  have hn' : n = "int" ∨ n = "bool" ∨ n = "str" ∨ n = "list" ∨ n = "tuple" ∨ n = "dict" := by simpa [knownT] using hn
  rcases hn' with rfl | rfl | rfl | rfl | rfl | rfl <;> (cases d <;> first | (cases h; done) | (cases h; rfl))
theorem kit_any {d : Dat} {t : String} (h : tyN d = some t) : ∀ {ns : List String}, ns.all (fun n => knownT.contains n) = true → PySem.W.kitAny K (.type t) (ns.map Value.type) = some (ns.any fun n => isiB t n)
  | [], _ => rfl
  | n :: ns, hn => by
    obtain ⟨h1, h2⟩ := Bool.and_eq_true_iff.mp (show (knownT.contains n && ns.all (fun n => knownT.contains n)) = true from hn)
    have ih := kit_any h (ns := ns) h2
    rw [List.map_cons, List.any_cons]
    show PySem.W.kitAny K (.type t) (.type n :: ns.map Value.type) = _
    unfold PySem.W.kitAny
    rw [kit_ok h h1, ih]
    cases isiB t n <;> rfl
theorem tyn_ok {d : Dat} {t : String} (h : tyN d = some t) : tyD d = .type t ∧ isiOk K d := by
  cases d <;> first
    | (cases h; done)
    | (cases h; exact ⟨rfl, trivial⟩)
theorem tysOf_ok : ∀ {cs : List Dat} {ns : List String}, tysOf cs = some ns → cs = ns.map fun n => Dat.obj (.ty n)
  | [], ns, h => by cases h; rfl
  | c :: cs, ns, h => by
    unfold tysOf at h
    split at h
    · rename_i e; cases e
    · rename_i n ds' e
      cases e
      cases e2 : tysOf cs with
      | none => rw [e2] at h; cases h
      | some r => rw [e2] at h; cases h; rw [tysOf_ok e2]; rfl
    · cases h
theorem reps_ty {G : Hp} : ∀ {ns : List String} {vs : List V}, Reps K G (ns.map fun n => Dat.obj (.ty n)) vs → vs = ns.map V.ty
  | [], vs, h => h
  | n :: ns, vs, h => by
    obtain ⟨v, r, rfl, h2, h3⟩ := h
    rw [reps_ty h3, show v = V.ty n from h2]
    rfl
theorem cs_isi : CbS K (bIsi K) aIsi := fun as d h => by
  unfold aIsi at h
  split at h
  · rename_i x n
    unfold isiOf at h
    split at h
    · rename_i hn
      cases e : tyN x with
      | none => rw [e] at h; cases h
      | some t =>
        rw [e] at h
        cases h
        obtain ⟨h1, h2⟩ := tyn_ok (K := K) e
        refine d_isiT (c := ct K) h2 ?_
        rw [h1]
        rw [List.all_cons, List.all_nil, Bool.and_true] at hn
        rw [show ((ct K).K) = K from rfl, kit_ok e hn]
        simp
    · cases h
  · rename_i x cs
    cases e0 : tysOf cs with
    | none => rw [e0] at h; cases h
    | some ns =>
      rw [e0] at h
      simp only [Option.bind_some] at h
      unfold isiOf at h
      split at h
      · rename_i hn
        cases e : tyN x with
        | none => rw [e] at h; cases h
        | some t =>
          rw [e] at h
          cases h
          obtain ⟨h1, h2⟩ := tyn_ok (K := K) e
          intro G H xs I R rs Q q
          obtain ⟨u, w, rfl, r1, r2⟩ := rs.two
          rw [tysOf_ok e0] at r2
          obtain ⟨p, vs, rfl, hp, rv⟩ := r2
          have ev := reps_ty rv
          have pr : Paired ClsV vs (ns.map Value.type) := by
            rw [ev]
            clear q ev hn rv e0 hp h2 h1 e r1
            induction ns with
            | nil => exact .nil
            | cons b bs ih => exact .cons (.ty b) ih
          exact .inr ⟨u, p, vs, _, ns.map Value.type, _, rfl, I.ex _ _ hp, pr, Rep.tyx h2 (r1.mono I.ex), by rw [h1]; exact kit_any e hn, q _ _ _ _ rfl (Step.refl I) rfl⟩
      · cases h
  · cases h
end
end DV

set_option autoImplicit false
set_option linter.all false
set_option maxRecDepth 100000
set_option maxHeartbeats 1000000
/-! New lists: sorted, list, slices, reversed, sets; texts: join, f-strings; several names at once. -/
namespace DV
open PySem PySem.Spec PyProof.Rows L2
section
variable {K : PySem.W.Frag} {E : XK} {te ta tb tc to : TE} {ea eb ec : EvD} {eo : EvO} {ev ev2 ev3 : EvV} {tt : TT} {et : EvT} {tr tk : TA} {er ek : EvA} {s s1 s' : Env} {σ : L2.St} {G H G1 H1 G2 H2 : Hp}
/-! ### new lists out of one datum -/
/-- a reading of one operand that makes a new list -/
def NewR (K : PySem.W.Frag) (r : V → Hp → VK → Prop) (f : Dat → Option (List Dat)) : Prop := ∀ a ds, f a = some ds → ∀ G H x, Ex G H → Rep K G a x → ∀ Q : VK, (∀ p ys, H p = none → Reps K G ds ys → Q (.ref p) (upd H p (.lst ys))) → r x H Q
@[simp] def eNew (f : Dat → Option (List Dat)) (ea : EvD) (s : Env) : Out Cel := (ea s).bind fun a s1 => match f a with
  | some ds => .ok (.lst ds) s1
  | none => .bad
theorem so_new {r : V → Hp → VK → Prop} {f : Dat → Option (List Dat)} (hr : NewR K r f) (h : SD K E ta ea) : SO K E (fun σ H Q => ta σ H fun x H1 => r x H1 Q) (eNew f ea) := fun s σ G H n Q q => by
  refine h s σ G H n _ ?_
  unfold eNew at q
  cases e : ea s with
  | exc x s1 => rw [e] at q; exact q
  | bad => rw [e] at q; exact q
  | ok a s1 =>
    rw [e] at q
    simp only [Out.bind_ok] at q
    intro v G1 H1 a1 rx
    split at q
    · rename_i ds hd
      refine hr a ds hd G1 H1 v a1.now.ex rx Q fun p ys hp rs => ?_
      exact q _ G1 _ (a1.trans (After.mvN a1.now (Mv.aside a1.now.ex hp))) ⟨p, rfl, a1.mv.fresh hp, a1.now.ex.none_of hp, _, upd_same, ys, rfl, rs⟩
    · exact q.elim
/-- x[::-1] -/
@[simp] def aRev : Dat → Option (List Dat)
  | .lst ds => some ds.reverse
  | _ => none
theorem nr_rev : NewR K (fun x H1 Q => ∃ a xs, x = .ref a ∧ SqL K H1 a xs ∧ ∀ p, H1 p = none → Q (.ref p) (upd H1 p (.lst xs.reverse))) aRev := fun a ds h G H x ex r Q q => by
  unfold aRev at h
  split at h
  · cases h
    obtain ⟨b, xs, rfl, hb, rs⟩ := r
    exact ⟨b, xs, rfl, ex_l ex hb, fun p hp => q p _ hp rs.rev⟩
  · cases h
theorem so_rev (h : SD K E ta ea) : SO K E (tRevL K ta) (eNew aRev ea) := by
  have z := so_new (ta := ta) (nr_rev (K := K)) h
  exact z
/-- sorted(set(x)) -/
def insU {κ : Type} [DecidableEq κ] (lt : κ → κ → Bool) (x : κ) : List κ → List κ
  | [] => [x]
  | y :: ys => if lt x y = true then x :: y :: ys else if x = y then y :: ys else y :: insU lt x ys
def ssU {κ : Type} [DecidableEq κ] (lt : κ → κ → Bool) (ks : List κ) : List κ := ks.foldr (insU lt) []
theorem mem_insU {κ : Type} [DecidableEq κ] {lt : κ → κ → Bool} {x z : κ} : ∀ {ys : List κ}, z ∈ insU lt x ys ↔ z = x ∨ z ∈ ys
  | [] => by simp [insU]
  | y :: ys => by
    unfold insU
    by_cases h : lt x y = true
    · rw [if_pos h]; simp
    · rw [if_neg h]
      by_cases h2 : x = y
      · rw [if_pos h2]; subst h2; simp
      · rw [if_neg h2, List.mem_cons, mem_insU, List.mem_cons]
        constructor
        · rintro (h | h | h)
          · exact .inr (.inl h)
          · exact .inl h
          · exact .inr (.inr h)
        · rintro (h | h | h)
          · exact .inr (.inl h)
          · exact .inl h
          · exact .inr (.inr h)
theorem mem_ssU {κ : Type} [DecidableEq κ] {lt : κ → κ → Bool} {z : κ} : ∀ {ks : List κ}, z ∈ ssU lt ks ↔ z ∈ ks
  | [] => Iff.rfl
  | k :: ks => by
    show z ∈ insU lt k (ssU lt ks) ↔ _
    rw [mem_insU, mem_ssU, List.mem_cons]
structure LtOk {κ : Type} (lt : κ → κ → Bool) : Prop where
  tr : ∀ {x y z : κ}, lt x y = true → lt y z = true → lt x z = true
  ir : ∀ {x : κ}, lt x x = false
  tot : ∀ {x y : κ}, lt x y = false → x ≠ y → lt y x = true
theorem asc_insU {κ : Type} [DecidableEq κ] {lt : κ → κ → Bool} (o : LtOk lt) {x : κ} : ∀ {ys : List κ}, ys.Pairwise (fun a b => lt a b = true) → (insU lt x ys).Pairwise fun a b => lt a b = true
  | [], _ => List.pairwise_singleton _ _
  | y :: ys, h => by
    unfold insU
    obtain ⟨h1, h2⟩ := List.pairwise_cons.mp h
    by_cases g : lt x y = true
    · rw [if_pos g]
      refine List.pairwise_cons.mpr ⟨fun z hz => ?_, h⟩
      rcases List.mem_cons.mp hz with rfl | hz
      · exact g
      · exact o.tr g (h1 z hz)
    · rw [if_neg g]
      by_cases g2 : x = y
      · rw [if_pos g2]; exact h
      · rw [if_neg g2]
        refine List.pairwise_cons.mpr ⟨fun z hz => ?_, asc_insU o h2⟩
        rcases mem_insU.mp hz with rfl | hz
        · exact o.tot (by simpa using g) g2
        · exact h1 z hz
theorem asc_ssU {κ : Type} [DecidableEq κ] {lt : κ → κ → Bool} (o : LtOk lt) : ∀ {ks : List κ}, (ssU lt ks).Pairwise fun a b => lt a b = true
  | [] => List.Pairwise.nil
  | k :: ks => asc_insU o (asc_ssU o)
theorem asc_one {κ : Type} [DecidableEq κ] {lt : κ → κ → Bool} (o : LtOk lt) : ∀ {xs ys : List κ}, xs.Pairwise (fun a b => lt a b = true) → ys.Pairwise (fun a b => lt a b = true) → (∀ z, z ∈ xs ↔ z ∈ ys) → xs = ys
  | [], [], _, _, _ => rfl
  | [], y :: ys, _, _, h => by have := (h y).mpr List.mem_cons_self; cases this
  | x :: xs, [], _, _, h => by have := (h x).mp List.mem_cons_self; cases this
  | x :: xs, y :: ys, hx, hy, h => by
    obtain ⟨x1, x2⟩ := List.pairwise_cons.mp hx
    obtain ⟨y1, y2⟩ := List.pairwise_cons.mp hy
    have e : x = y := by
      rcases List.mem_cons.mp ((h x).mp List.mem_cons_self) with e | e
      · exact e
      · rcases List.mem_cons.mp ((h y).mpr List.mem_cons_self) with e2 | e2
        · exact e2.symm
        · have a := o.tr (y1 x e) (x1 y e2)
          rw [o.ir] at a
          cases a
    subst e
    congr 1
    refine asc_one o x2 y2 fun z => ⟨fun hz => ?_, fun hz => ?_⟩
    · rcases List.mem_cons.mp ((h z).mp (List.mem_cons_of_mem _ hz)) with e | e
      · subst e
        have a := x1 z hz
        rw [o.ir] at a
        cases a
      · exact e
    · rcases List.mem_cons.mp ((h z).mpr (List.mem_cons_of_mem _ hz)) with e | e
      · subst e
        have a := y1 z hz
        rw [o.ir] at a
        cases a
      · exact e
def ltI (i j : Int) : Bool := decide (i < j)
def ltS (x y : Str) : Bool := decide (x.cps.toList < y.cps.toList)
theorem ltI_ok : LtOk ltI := ⟨fun {x y z} h1 h2 => by simp only [ltI, decide_eq_true_eq] at *; omega, fun {x} => by simp [ltI], fun {x y} h1 h2 => by simp only [ltI, decide_eq_true_eq, decide_eq_false_iff_not] at *; omega⟩
theorem nat_tri : ∀ {xs ys : List Nat}, ¬ xs < ys → xs ≠ ys → ys < xs
  | [], [], _, h => absurd rfl h
  | [], y :: ys, h, _ => absurd (List.nil_lt_cons y ys) h
  | x :: xs, [], _, _ => List.nil_lt_cons x xs
  | x :: xs, y :: ys, h, h2 => by
    rw [List.cons_lt_cons_iff] at h ⊢
    by_cases e : x = y
    · subst e
      exact .inr ⟨rfl, nat_tri (fun z => h (.inr ⟨rfl, z⟩)) fun z => h2 (by rw [z])⟩
    · have : ¬ x < y := fun z => h (.inl z)
      exact .inl (by omega)
theorem nat_irr : ∀ {xs : List Nat}, ¬ xs < xs
  | [], h => by cases h
  | x :: xs, h => by
    rw [List.cons_lt_cons_iff] at h
    rcases h with h | h
    · omega
    · exact nat_irr h.2
theorem nat_tr : ∀ {xs ys zs : List Nat}, xs < ys → ys < zs → xs < zs
  | [], [], _, h, _ => absurd h nat_irr
  | [], y :: ys, [], _, h => by cases h
  | [], y :: ys, z :: zs, _, _ => List.nil_lt_cons z zs
  | x :: xs, [], _, h, _ => by cases h
  | x :: xs, y :: ys, [], _, h => by cases h
  | x :: xs, y :: ys, z :: zs, h1, h2 => by
    rw [List.cons_lt_cons_iff] at h1 h2 ⊢
    rcases h1 with h1 | h1 <;> rcases h2 with h2 | h2
    · exact .inl (by omega)
    · exact .inl (by omega)
    · exact .inl (by omega)
    · exact .inr ⟨h1.1.trans h2.1, nat_tr h1.2 h2.2⟩
theorem ltS_ok : LtOk ltS := ⟨fun {x y z} h1 h2 => by
  simp only [ltS, decide_eq_true_eq] at *
  exact nat_tr h1 h2, fun {x} => by simp only [ltS, decide_eq_false_iff_not]; exact nat_irr, fun {x y} h1 h2 => by
  simp only [ltS, decide_eq_true_eq, decide_eq_false_iff_not] at *
  exact nat_tri h1 fun e => h2 (PySem.W.str_of_cps e)⟩
def intsOf : List Dat → Option (List Int)
  | [] => some []
  | .int b :: ds => (intsOf ds).map fun r => b :: r
  | _ => none
def strsOf : List Dat → Option (List Str)
  | [] => some []
  | .str b :: ds => (strsOf ds).map fun r => b :: r
  | _ => none
theorem intsOf_ok : ∀ {ds : List Dat} {bs : List Int}, intsOf ds = some bs → ds = bs.map Dat.int
  | [], bs, h => by cases h; rfl
  | d :: ds, bs, h => by
    unfold intsOf at h
    split at h
    · rename_i e; cases e
    · rename_i b ds' e
      cases e
      cases e2 : intsOf ds with
      | none => rw [e2] at h; cases h
      | some r => rw [e2] at h; cases h; rw [intsOf_ok e2]; rfl
    · cases h
theorem strsOf_ok : ∀ {ds : List Dat} {bs : List Str}, strsOf ds = some bs → ds = bs.map Dat.str
  | [], bs, h => by cases h; rfl
  | d :: ds, bs, h => by
    unfold strsOf at h
    split at h
    · rename_i e; cases e
    · rename_i b ds' e
      cases e
      cases e2 : strsOf ds with
      | none => rw [e2] at h; cases h
      | some r => rw [e2] at h; cases h; rw [strsOf_ok e2]; rfl
    · cases h
theorem intsOf_map (ks : List Int) : intsOf (ks.map Dat.int) = some ks := by
  induction ks with
  | nil => rfl
  | cons k ks ih => show (intsOf (ks.map Dat.int)).map _ = _; rw [ih]; rfl
theorem strsOf_map (ks : List Str) : strsOf (ks.map Dat.str) = some ks := by
  induction ks with
  | nil => rfl
  | cons k ks ih => show (strsOf (ks.map Dat.str)).map _ = _; rw [ih]; rfl
theorem reps_strs {G : Hp} : ∀ ks : List Str, Reps K G (ks.map Dat.str) (ks.map V.str)
  | [] => rfl
  | k :: ks => ⟨_, _, rfl, rfl, reps_strs ks⟩
theorem inn0 (ex : Ex G H) : Inn K Wld.none [] G H := ⟨ex, trivial, fun _ z => z.elim, List.nodup_nil, fun _ z => nomatch z⟩
def aSSet : Dat → Option (List Dat)
  | .lst ds => if ds.length ≤ 1000 then match intsOf ds with
      | some ks => some ((ssU ltI ks).map Dat.int)
      | none => (strsOf ds).map fun ks => (ssU ltS ks).map Dat.str
    else none
  | _ => none
theorem nr_sset : NewR K (fun x H1 Q => ∃ l, x = V.ref l ∧ (SSet K Int V.int (fun x1 x2 => x1 ≤ x2) l H1 Q ∨ SSet K Str V.str strLe l H1 Q)) aSSet := fun a out h G H x ex r Q q => by
  unfold aSSet at h
  split at h
  · rename_i ds
    split at h
    · rename_i hl
      obtain ⟨b, xs, rfl, hb, rs⟩ := r
      refine ⟨b, rfl, ?_⟩
      split at h
      · rename_i ks e
        cases h
        rw [intsOf_ok e] at rs hl
        have ev := rs.ints_v
        subst ev
        rw [List.length_map] at hl
        refine .inl ⟨ks, ex_l ex hb, hl, fun os p nd mm pw ll hp => ?_⟩
        have eo : os = ssU ltI ks := asc_one ltI_ok (List.Pairwise.imp₂ (fun a b h1 h2 => by simp only [ltI, decide_eq_true_eq]; omega) pw nd) (asc_ssU ltI_ok) fun z => (mm z).trans mem_ssU.symm
        rw [eo]
        exact q p _ hp (Reps.ints _)
      · cases e : strsOf ds with
        | none => rw [e] at h; cases h
        | some ks =>
          rw [e] at h
          cases h
          rw [strsOf_ok e] at rs hl
          have ev := rs.strs_of
          subst ev
          rw [List.length_map] at hl
          refine .inr ⟨ks, ex_l ex hb, hl, fun os p nd mm pw ll hp => ?_⟩
          have eo : os = ssU ltS ks := asc_one ltS_ok (List.Pairwise.imp₂ (fun a b h1 h2 => by
            cases z : ltS a b with
            | true => rfl
            | false =>
              have := ltS_ok.tot z h2
              simp only [ltS, decide_eq_true_eq] at this
              exact absurd this h1) pw nd) (asc_ssU ltS_ok) fun z => (mm z).trans mem_ssU.symm
          rw [eo]
          exact q p _ hp (reps_strs _)
    · cases h
  · cases h
theorem so_sset (h : SD K E ta ea) : SO K E (tSSet K ta) (eNew aSSet ea) := by
  have z := so_new (ta := ta) (nr_sset (K := K)) h
  exact z
/-! list(x), sorted(x) -/
@[simp] def aList : List Dat → Option (List Dat)
  | [.lst ds] => some ds
  | [.tup ds] => some ds
  | _ => none
theorem cn_list : CbN K (bLst K) aList := fun as ds h G H xs ex r Q q => by
  unfold aList at h
  split at h
  · cases h
    obtain ⟨x, rfl, a, vs, rfl, ha, rs⟩ := r.only
    exact ⟨a, vs, rfl, .inl (ex_l ex ha), fun p hp => q p vs G _ hp (Step.aside (inn0 (K := K) ex) hp) (ex.none_of hp) upd_same rs⟩
  · cases h
    obtain ⟨x, rfl, a, vs, rfl, ha, rs⟩ := r.only
    exact ⟨a, vs, rfl, .inr (SqT.of (ex _ _ ha)), fun p hp => q p vs G _ hp (Step.aside (inn0 (K := K) ex) hp) (ex.none_of hp) upd_same rs⟩
  · cases h
def tup1 : PyData → Bool
  | .tuple (_ :: _) => true
  | _ => false
def noTup : PyData → Bool
  | .none => false
  | .tuple _ => false
  | _ => true
def sortOk (ds : List Dat) : Bool := plains ds && ((ds.all fun d => ds.all fun d' => PySem.W.alike (toP d) (toP d')) && (((ds.all fun d => tup1 (toP d)) || ds.all fun d => noTup (toP d)) && ds.all fun d => decide ((toP d).depth ≤ 60)))
def aSorted : List Dat → Option (List Dat)
  | [.lst ds] => if sortOk ds = true then some (srtD ds) else none
  | _ => none
theorem cn_sorted : CbN K (rSortD K) aSorted := fun as ds h G H xs ex r Q q => by
  unfold aSorted at h
  split at h
  · rename_i es
    split at h
    · rename_i ho
      cases h
      obtain ⟨x, rfl, r1⟩ := r.only
      obtain ⟨h1, ho⟩ := Bool.and_eq_true_iff.mp ho
      obtain ⟨h2, ho⟩ := Bool.and_eq_true_iff.mp ho
      obtain ⟨h3, h4⟩ := Bool.and_eq_true_iff.mp ho
      have I : Inn (ct K).K (ct K).W [] G H := inn0 ex
      have z := d_sortN (c := ct K) (cs := []) (Δ := [some (.lst es)]) (te := tVar 0) (ds := es) h1 (fun a ha b hb => ?_) ?_ (fun d hd => of_decide_eq_true (List.all_eq_true.mp h4 d hd)) (ev_var rfl) [some x] G H (sig1 r1) I ct_raises Q fun es' p ys G2 H2 e hp gp _ st hx rs => by
        subst e
        exact q p ys G2 H2 hp st gp hx rs
      · obtain ⟨v, e, z⟩ := z
        cases e
        exact z
      · obtain ⟨a', ha', rfl⟩ := List.mem_map.mp ha
        obtain ⟨b', hb', rfl⟩ := List.mem_map.mp hb
        exact List.all_eq_true.mp (List.all_eq_true.mp h2 a' ha') b' hb'
      · rcases Bool.or_eq_true_iff.mp h3 with h3 | h3
        · refine .inl fun d hd => ?_
          obtain ⟨d', hd', rfl⟩ := List.mem_map.mp hd
          have z := List.all_eq_true.mp h3 d' hd'
          cases e : toP d' <;> rw [e] at z <;> first | (cases z; done) | skip
          rename_i l
          cases l with
          | nil => cases z
          | cons x r => exact ⟨x, r, rfl⟩
        · refine .inr fun d hd => ?_
          obtain ⟨d', hd', rfl⟩ := List.mem_map.mp hd
          have z := List.all_eq_true.mp h3 d' hd'
          exact ⟨fun e => (by rw [e] at z; cases z), fun xs e => (by rw [e] at z; cases z)⟩
    · cases h
  · cases h
/-! slices -/
@[simp] def eOi (eo : Option EvD) (s : Env) : Out (Option Int) := match eo with
  | none => .ok none s
  | some ea => (ea s).bind fun d s1 => match d with
    | .int z => .ok (some z) s1
    | _ => .bad
def SOi (K : PySem.W.Frag) (E : XK) (t : TO) (ev : Env → Out (Option Int)) : Prop := ∀ s σ G H, Now K s σ G H → ∀ Q : Option Int → Hp → Prop, Gets K E σ s G H (fun _ _ a b => a = b) (ev s) Q → t σ H Q
theorem oi_none : SOi K E tNoPart (eOi none) := fun s σ G H n Q q => q none G H (After.refl n) rfl
theorem oi_some (h : SD K E te ea) : SOi K E (tPart te) (eOi (some ea)) := fun s σ G H n Q q =>
  h s σ G H n _ (q.seq fun d s1 v G1 H1 _ a1 r q1 => by
    split at q1
    · rename_i z _
      exact ⟨z, r, q1 (some z) G1 H1 (After.refl a1.now) rfl⟩
    · exact q1.elim)
@[simp] def slOf (d : Dat) (lo hi : Option Int) : Option Dat := match d with
  | .lst ds => some (.lst (cutD ds lo hi))
  | .tup ds => some (.tup (cutD ds lo hi))
  | .str z => if z.length ≤ sizeLine then some (.str (cutS z lo hi)) else none
  | _ => none
@[simp] def eSl (ea : EvD) (el eh : Env → Out (Option Int)) (s : Env) : Out Dat := (ea s).bind fun d s1 => (el s1).bind fun lo s2 => (eh s2).bind fun hi s3 => lift (slOf d lo hi) s3
theorem sd_sl {tl th : TO} {el eh : Env → Out (Option Int)} (h : SD K E te ea) (h1 : SOi K E tl el) (h2 : SOi K E th eh) : SD K E (tSl (bSl K) te tl th) (eSl ea el eh) := fun s σ G H n Q q =>
  h s σ G H n _ (q.seq fun d s1 x G1 H1 _ a1 r1 q1 => h1 s1 σ G1 H1 a1.now _ (q1.seq fun lo s2 lo' G2 H2 _ a2 e2 q2 => h2 s2 σ G2 H2 a2.now _ (q2.seq fun hi s3 hi' G3 H3 _ a3 e3 q3 => by
    subst e2 e3
    obtain ⟨out, e, q4⟩ := q3.lift
    have r3 := (r1.mono a2.mv.g).mono a3.mv.g
    have eo : ∀ {Δ : Sts} {i : Option Int}, EVO (ct K) [] Δ (match i with
      | none => tNoPart
      | some z => tPart (tC (.int z))) i := fun {Δ i} => by
      cases i with
      | none => exact eo_none
      | some z => exact eo_some ev_int
    have fin : ∀ {d' : Dat} {G4 H4 : Hp} {v : V}, d' = out → Step Wld.none G3 H3 G4 H4 → Rep K G4 d' v → Q v H4 := fun {d' G4 H4 v} e5 st rd => by
      subst e5
      exact q4 v G4 H4 (After.step a3.now st) rd
    have low : ∀ {i : Option Int} {σ' : L2.St} {H' : Hp} {P : Option Int → Hp → Prop}, (match i with
      | none => tNoPart
      | some z => tPart (tC (.int z))) σ' H' P → P i H' := fun {i σ' H' P} z => by
      cases i with
      | none => exact z
      | some w => obtain ⟨i, e, z⟩ := z; cases e; exact z
    unfold slOf at e
    split at e
    · rename_i ds _
      cases e
      have z := ev_slN (c := ct K) (cs := []) (Δ := [some (.lst ds)]) (te := tVar 0) (ev_var rfl) (eo (i := lo)) (eo (i := hi)) [some x] G3 H3 (sig1 r3) a3.now.inn ct_raises Q fun d' v G4 H4 e5 st rd => fin e5 st rd
      obtain ⟨w, e6, z⟩ := z
      cases e6
      exact low (low z)
    · rename_i ds _
      cases e
      have z := ev_slT (c := ct K) (cs := []) (Δ := [some (.tup ds)]) (te := tVar 0) (ev_var rfl) (eo (i := lo)) (eo (i := hi)) [some x] G3 H3 (sig1 r3) a3.now.inn ct_raises Q fun d' v G4 H4 e5 st rd => fin e5 st rd
      obtain ⟨w, e6, z⟩ := z
      cases e6
      exact low (low z)
    · rename_i y _
      split at e
      · rename_i hl
        cases e
        have z := ev_slS (c := ct K) (cs := []) (Δ := [some (.str y)]) (te := tVar 0) (ev_var rfl) hl (eo (i := lo)) (eo (i := hi)) [some x] G3 H3 (sig1 r3) a3.now.inn ct_raises Q fun d' v G4 H4 e5 st rd => fin e5 st rd
        obtain ⟨w, e6, z⟩ := z
        cases e6
        exact low (low z)
      · cases e
    · cases e)))
/-! chains a < b < c -/
@[simp] def eChain (f g : Dat → Dat → Option Dat) (ea eb ec : EvD) (s : Env) : Out Dat := (ea s).bind fun a s1 => (eb s1).bind fun b s2 => match f a b with
  | some (.bl true) => (ec s2).bind fun c s3 => match g b c with
    | some (.bl k) => .ok (.bl k) s3
    | _ => .bad
  | some (.bl false) => .ok (.bl false) s2
  | _ => .bad
/-! sep.join(xs) -/
def joinOf : Dat → Dat → Option Dat
  | .str x, .lst ds => (strsOf ds).bind fun ys => if (ys.map (·.length)).sum + ys.length * x.length ≤ 16777216 then some (.str (Txt.join x ys)) else none
  | _, _ => none
@[simp] def eJoin (ea eb : EvD) (s : Env) : Out Dat := (ea s).bind fun a s1 => match a with
  | .str x => (eb s1).bind fun b s2 => lift (joinOf (.str x) b) s2
  | _ => .bad
theorem sd_join (h1 : SD K E to ea) (h2 : SD K E te eb) : SD K E (tM1 (rJoin K) to te) (eJoin ea eb) := fun s σ G H n Q q =>
  h1 s σ G H n _ (q.seq fun a s1 x G1 H1 _ a1 r1 q1 => by
    split at q1
    · rename_i z _
      refine ⟨⟨z, r1⟩, h2 s1 σ G1 H1 a1.now _ (q1.seq fun b s2 y G2 H2 _ a2 r2 q2 => ?_)⟩
      obtain ⟨out, e3, q3⟩ := q2.lift
      cases b with
      | lst ds =>
        simp only [joinOf] at e3
        cases e4 : strsOf ds with
        | none => rw [e4] at e3; cases e3
        | some ys =>
          rw [e4] at e3
          simp only [Option.bind_some] at e3
          split at e3
          · rename_i hl
            cases e3
            rw [strsOf_ok e4] at r2
            obtain ⟨p, vs, rfl, hp, rs⟩ := r2
            have ev := rs.strs_of
            subst ev
            exact ⟨z, p, ys, r1, rfl, .inl (ex_l a2.now.ex hp), hl, q3 _ G2 H2 (After.refl a2.now) rfl⟩
          · cases e3
      | _ => cases e3
    · exact q1.elim)
end
end DV

set_option autoImplicit false
set_option linter.all false
set_option maxRecDepth 100000
set_option maxHeartbeats 1000000
/-! Chains, f-strings, list(d), several names at once, return of a cell; how arguments are laid. -/
namespace DV
open PySem PySem.Spec PyProof.Rows L2
section
variable {K : PySem.W.Frag} {E : XK} {te ta tb tc to : TE} {ea eb ec : EvD} {eo : EvO} {ev ev2 ev3 : EvV} {tt : TT} {et : EvT} {tr tk : TA} {er ek : EvA} {s s1 s' : Env} {σ : L2.St} {G H G1 H1 G2 H2 : Hp}
theorem sd_chain {r r' : R2} {f g : Dat → Dat → Option Dat} (hr : OpS K r f) (hr' : OpS K r' g) (h1 : SD K E ta ea) (h2 : SD K E tb eb) (h3 : SD K E tc ec) : SD K E (tChain r r' ta tb tc) (eChain f g ea eb ec) := fun s σ G H n Q q =>
  h1 s σ G H n _ (q.seq fun a s1 x G1 H1 _ a1 rx q1 => h2 s1 σ G1 H1 a1.now _ (q1.seq fun b s2 y G2 H2 _ a2 ry q2 => by
    split at q2
    · rename_i e
      refine hr a b _ e G2 H2 x y a2.now.inn ct_raises (rx.mono a2.mv.g) ry _ fun d' v G3 H3 e3 st rd => ?_
      subst e3
      have a3 := After.step a2.now st
      refine ⟨true, rd, ?_⟩
      rw [if_pos rfl]
      refine h3 s2 σ G3 H3 a3.now _ ((q2.shift a3).seq fun c s4 z G4 H4 _ a4 rz q4 => ?_)
      split at q4
      · rename_i k e4
        exact hr' b c _ e4 G4 H4 y z a4.now.inn ct_raises ((ry.mono a3.mv.g).mono a4.mv.g) rz Q fun d' w G5 H5 e5 st5 rd5 => by
          subst e5
          exact q4 w G5 H5 (After.step a4.now st5) rd5
      · exact q4.elim
    · rename_i e
      refine hr a b _ e G2 H2 x y a2.now.inn ct_raises (rx.mono a2.mv.g) ry _ fun d' v G3 H3 e3 st rd => ?_
      subst e3
      refine ⟨false, rd, ?_⟩
      rw [if_neg (by decide)]
      exact q2 (.bl false) G3 H3 (After.step a2.now st) rfl
    · exact q2.elim))
/-! f-strings -/
@[simp] def fmtOf : Dat → Option Str
  | .str z => if z.length ≤ sizeLine then some z else none
  | .int i => if i.natAbs.log2 < 1920 then some (txt i) else none
  | _ => none
@[simp] def eFmt (ea : EvD) (s : Env) : Out Dat := (ea s).bind fun d s1 => lift ((fmtOf d).map Dat.str) s1
theorem sd_fmt (h : SD K E te ea) : SD K E (tFmt te) (eFmt ea) := fun s σ G H n Q q =>
  h s σ G H n _ (q.seq fun d s1 v G1 H1 _ a1 r q1 => by
    obtain ⟨out, e, q2⟩ := q1.lift
    cases d with
    | str z =>
      simp only [fmtOf] at e
      split at e
      · rename_i hl; cases e; exact .inl ⟨z, r, hl, q2 _ G1 H1 (After.refl a1.now) rfl⟩
      · cases e
    | int i =>
      simp only [fmtOf] at e
      split at e
      · rename_i hl; cases e; exact .inr ⟨i, r, hl, q2 (.str (txt i)) G1 H1 (After.refl a1.now) rfl⟩
      · cases e
    | _ => cases e)
@[simp] def fmtROf : Dat → Option Dat
  | .lst ds => if rpr (.lst ds) = true ∧ (toP (.lst ds)).shown.length ≤ sizeLine then some (.str (toP (.lst ds)).shown) else none
  | .tup ds => if rpr (.tup ds) = true ∧ (toP (.tup ds)).shown.length ≤ sizeLine then some (.str (toP (.tup ds)).shown) else none
  | _ => none
@[simp] def eFmtR (ea : EvD) (s : Env) : Out Dat := (ea s).bind fun d s1 => lift (fmtROf d) s1
theorem sd_fmtR (h : SD K E te ea) : SD K E (tFmtRD K te) (eFmtR ea) := fun s σ G H n Q q =>
  h s σ G H n _ (q.seq fun d s1 v G1 H1 _ a1 r q1 => by
    obtain ⟨out, e, q2⟩ := q1.lift
    cases d with
    | lst ds =>
      simp only [fmtROf] at e
      split at e
      · rename_i hl
        cases e
        obtain ⟨hr, h4⟩ := Bool.and_eq_true_iff.mp hl.1
        obtain ⟨hr, h3⟩ := Bool.and_eq_true_iff.mp hr
        obtain ⟨h1, h2⟩ := Bool.and_eq_true_iff.mp hr
        have dp := Rep.dp _ v h1 (r.mono a1.now.ex)
        obtain ⟨a, vs, rfl, _⟩ := r
        exact ⟨a, _, rfl, dp, h2, by simpa using h3, of_decide_eq_true h4, hl.2, q2 _ G1 H1 (After.refl a1.now) rfl⟩
      · cases e
    | tup ds =>
      simp only [fmtROf] at e
      split at e
      · rename_i hl
        cases e
        obtain ⟨hr, h4⟩ := Bool.and_eq_true_iff.mp hl.1
        obtain ⟨hr, h3⟩ := Bool.and_eq_true_iff.mp hr
        obtain ⟨h1, h2⟩ := Bool.and_eq_true_iff.mp hr
        have dp := Rep.dp _ v h1 (r.mono a1.now.ex)
        obtain ⟨a, vs, rfl, _⟩ := r
        exact ⟨a, _, rfl, dp, h2, by simpa using h3, of_decide_eq_true h4, hl.2, q2 _ G1 H1 (After.refl a1.now) rfl⟩
      · cases e
    | _ => cases e)
/-- the texts one behind the other -/
def SJ (K : PySem.W.Frag) (E : XK) (ts : List TE) (ej : Str → Env → Out Str) : Prop := ∀ acc s σ G H, Now K s σ G H → ∀ Q : Str → Hp → Prop, Gets K E σ s G H (fun _ _ a b => a = b) (ej acc s) Q → tJs ts acc σ H Q
@[simp] def ejNil (acc : Str) (s : Env) : Out Str := .ok acc s
@[simp] def ejCons (ea : EvD) (er : Str → Env → Out Str) (acc : Str) (s : Env) : Out Str := (ea s).bind fun d s1 => match d with
  | .str z => if (acc ++ z).length ≤ sizeLine then er (acc ++ z) s1 else .bad
  | _ => .bad
theorem sj_nil : SJ K E [] ejNil := fun acc s σ G H n Q q => q acc G H (After.refl n) rfl
theorem sj_cons {ts : List TE} {er : Str → Env → Out Str} (h : SD K E te ea) (hr : SJ K E ts er) : SJ K E (te :: ts) (ejCons ea er) := fun acc s σ G H n Q q =>
  h s σ G H n _ (q.seq fun d s1 v G1 H1 _ a1 r q1 => by
    split at q1
    · rename_i z _
      split at q1
      · rename_i hl
        exact ⟨z, r, hl, hr _ s1 σ G1 H1 a1.now Q q1⟩
      · exact q1.elim
    · exact q1.elim)
@[simp] def eJoined (ej : Str → Env → Out Str) (s : Env) : Out Dat := (ej Str.empty s).bind fun z s1 => .ok (.str z) s1
theorem sd_joined {ts : List TE} {ej : Str → Env → Out Str} (h : SJ K E ts ej) : SD K E (fun σ H Q => tJs ts Str.empty σ H fun out H1 => Q (.str out) H1) (eJoined ej) := fun s σ G H n Q q =>
  h Str.empty s σ G H n _ (q.seq fun z s1 z' G1 H1 _ a1 e q1 => by
    subst e
    exact q1 (.str z) G1 H1 (After.refl a1.now) rfl)
/-! list(d), d a dict whose keys are tuples -/
def keyT (k : List Key) : Dat := .tup (k.map keyD)
theorem keysT_reps {ks : List (List Key)} {xs : List V} {bs : List Addr} (h : IsKeys H (ks.zip xs) bs) (hl : ks.length = xs.length) (hb : ∀ b ∈ bs, G b = H b) : Reps K G (ks.map keyT) (bs.map V.ref) := by
  unfold IsKeys at h
  induction ks generalizing xs bs with
  | nil => cases h; rfl
  | cons x ks ih =>
    cases xs with
    | nil => cases hl
    | cons y xs =>
      cases h with
      | @cons _ b _ bs h1 h2 =>
        exact ⟨_, _, rfl, ⟨b, _, rfl, by rw [hb b List.mem_cons_self]; exact h1, Reps.keys x⟩, ih h2 (by simpa using hl) fun b' hb' => hb b' (List.mem_cons_of_mem _ hb')⟩
@[simp] def eListT (i : Nat) (s : Env) : Out Cel := match s[i]? with
  | some (some (.c _ (.dcT ks ds))) => .ok (.lst (ks.map keyT)) s
  | _ => .bad
theorem so_listT {i : Nat} : SO K E (tCB rListT (tCons (tVar i) tNil)) (eListT i) := fun s σ G H n Q q => by
  unfold eListT at q
  split at q
  · rename_i p ks ds e0
    obtain ⟨l, ha, gl, o, ho, xs, rfl, hl, rs⟩ := n.own i p _ e0
    refine ⟨_, ha, l, ks.zip xs, rfl, .inl ho, fun q' bs hp kb => ?_⟩
    have tup := keys_tup kb
    classical
    let G' : Hp := fun b => if b ∈ bs then H b else G b
    have e1 : Ex G G' := fun b u z => by
      by_cases w : b ∈ bs
      · show (if b ∈ bs then H b else G b) = some u
        rw [if_pos w]; exact n.ex b u z
      · show (if b ∈ bs then H b else G b) = some u
        rw [if_neg w]; exact z
    have e2 : Ex G' H := fun b u z => by
      have z : (if b ∈ bs then H b else G b) = some u := z
      by_cases w : b ∈ bs
      · rw [if_pos w] at z; exact z
      · rw [if_neg w] at z; exact n.ex b u z
    have m : Mv nOne G H G' H := ⟨e1, e2, fun _ _ _ z => z, fun b _ _ nb gb => by
      show (if b ∈ bs then H b else G b) = none
      rw [if_neg fun z => let ⟨xs, w⟩ := tup b z; nb xs w]
      exact gb, fun _ z => z⟩
    have a1 := After.mvN n m
    have gp : G' q' = none := e2.none_of hp
    refine q _ G' _ (a1.trans (After.mvN a1.now (Mv.aside e2 hp))) ⟨q', rfl, hp, gp, _, upd_same, bs.map V.ref, rfl, keysT_reps kb hl fun b hb => ?_⟩
    show (if b ∈ bs then H b else G b) = H b
    rw [if_pos hb]
  · exact q.elim
/-! return x, x a cell -/
theorem ss_retV {i : Nat} : SS K E (tRet (tVar i)) (sRetV i) := fun e s σ G H n t D w => by
  unfold sRetV at w
  split at w
  · rename_i k e0
    obtain ⟨a, ha, hd⟩ := n.own i _ k e0
    refine ⟨_, ha, w _ σ G H n t ⟨a, rfl, ?_, hd⟩⟩
    rcases t.ix i _ k a e0 ha with ⟨h, _⟩ | ⟨_, h⟩
    · cases h
    · exact h
  · rename_i x e0
    obtain ⟨v, h1, h2⟩ := n.dat i x e0
    exact ⟨v, h1, w v σ G H n t h2⟩
  · exact w.elim
/-! several names at once -/
/-- an answer that waits to be given a name -/
def Pend (K : PySem.W.Frag) (e : Ent) (s : Env) (σ : L2.St) (G H : Hp) : RV → V → Prop
  | .d x, v => Rep K G x v
  | .c k, v => ∃ a, v = .ref a ∧ e.H a = none ∧ ¬ OwnA s σ a ∧ Hold K G H a k
  | .t _ _, _ => True
def RV.at : RV → V → Addr → Prop
  | .d _, _, _ => False
  | .c _, v, a => v = .ref a
  | .t _ _, _, _ => False
theorem Now.setP {e : Ent} (n : Now K s σ G H) (t : At e s σ G H) {i : Nat} {r : RV} {v : V} (p : Pend K e s σ G H r v) (w : DV.setV i r s = .nx s') : Now K s' (σ.set i (some v)) G H ∧ At e s' (σ.set i (some v)) G H ∧ ∀ b, OwnA s' (σ.set i (some v)) b → OwnA s σ b ∨ r.at v b := by
  unfold DV.setV at w
  split at w
  · cases w
  · rename_i hp
    cases r with
    | t pre es => cases w
    | d x =>
      cases w
      have tg := n.setD (i := i) p fun k e => hp k e
      exact ⟨tg.now, t.tgt tg, fun b z => .inl (tg.own b z)⟩
    | c k =>
      cases w
      obtain ⟨a, rfl, ha, no, hd⟩ := p
      obtain ⟨n1, o1, p1⟩ := n.setC (i := i) no hd fun k e => hp k e
      refine ⟨n1, ⟨t.fl, t.mv, fun j q l c h1 h2 => ?_, fun j c p => ?_⟩, fun b ⟨j, q, l, h1, h2⟩ => ?_⟩
      · rcases o1 j q l c h1 h2 with ⟨rfl, rfl⟩ | ⟨h3, h4⟩
        · exact .inr ⟨rfl, ha⟩
        · exact t.ix j q l c h3 h4
      · obtain ⟨l, h1, h2⟩ := t.pin j c p
        obtain ⟨⟨l', h3⟩, h4⟩ := p1 j l h1
        exact ⟨l', h3, h4.trans h2⟩
      · rcases o1 j q l b h1 h2 with ⟨_, rfl⟩ | ⟨h3, h4⟩
        · exact .inr rfl
        · exact .inl ⟨j, q, l, h3, h4⟩
theorem Pend.of {e : Ent} (n0 : Now K s σ G H) (t0 : At e s σ G H) (b : After K σ s G H s1 G1 H1) {r : RV} {v : V} (rr : RepRV K H G1 H1 r v) : Pend K e s1 σ G1 H1 r v := by
  cases r with
  | d x => exact rr
  | c k =>
    obtain ⟨a, rfl, ha, hd⟩ := rr
    exact ⟨a, rfl, t0.mv.fresh ha, fun z => n0.notOwn ha (b.lt.ownA z), hd⟩
  | t pre es => trivial
theorem Pend.after {e : Ent} {r : RV} {v : V} (p : Pend K e s σ G H r v) (b : After K σ s G H s1 G1 H1) : Pend K e s1 σ G1 H1 r v := by
  cases r with
  | d x => exact Rep.mono b.mv.g x v p
  | c k =>
    obtain ⟨a, rfl, ha, no, hd⟩ := p
    exact ⟨a, rfl, ha, fun z => no (b.lt.ownA z), hd.mv b.mv no⟩
  | t pre es => trivial
/-- two answers are not one cell -/
theorem at_ne {r q : RV} {v w : V} {a : Addr} {e : Ent} (p : Pend K e s σ G H r v) (rr : RepRV K H G1 H1 q w) (h1 : r.at v a) (h2 : q.at w a) : False := by
  cases r with
  | d x => exact h1
  | t pre es => exact h1
  | c k =>
    cases q with
    | d x => exact h2
    | t pre es => exact h2
    | c l =>
      obtain ⟨b, rfl, hb, _⟩ := rr
      obtain ⟨c, rfl, _, _, hd⟩ := p
      cases (show V.ref c = V.ref a from h1)
      cases (show V.ref b = V.ref a from h2)
      exact hd.ne hb
theorem Pend.set {e : Ent} {i : Nat} {r q : RV} {v w : V} (p : Pend K e s σ G H q w) (o : ∀ b, OwnA s' (σ.set i (some v)) b → OwnA s σ b ∨ r.at v b) (d : ∀ a, r.at v a → q.at w a → False) : Pend K e s' (σ.set i (some v)) G H q w := by
  cases q with
  | d x => exact p
  | c k =>
    obtain ⟨a, rfl, ha, no, hd⟩ := p
    exact ⟨a, rfl, ha, fun z => (o a z).elim no fun z => d a z rfl, hd⟩
  | t pre es => trivial
theorem setV_not {i : Nat} {r : RV} {x : SR} (h : setV i r s = x) (h1 : ∀ s', x ≠ .nx s') : x = .bad := by
  unfold setV at h
  split at h
  · exact h.symm
  · cases r with
    | d y => exact absurd h.symm (h1 _)
    | c k => exact absurd h.symm (h1 _)
    | t a b => exact h.symm
theorem ss_par {i j : Nat} (h1 : SV K E ta ev) (h2 : SV K E tb ev2) : SS K E (tPar i j (tCons ta (tCons tb tNil))) (sPar ev ev2 i j) := fun e s σ G H n t D w =>
  h1 s σ G H n _ (w.of t fun r s1 v G1 H1 _ b1 t1 rr w1 => by
    have p1 := Pend.of n t b1 rr
    refine h2 s1 σ G1 H1 b1.now _ (w1.of t1 fun q s2 u G2 H2 _ b2 t2 rq w2 => ?_)
    have p2 := p1.after b2
    have p3 := Pend.of b1.now t1 b2 rq
    cases e3 : setV i r s2 with
    | nx s3 =>
      rw [e3] at w2
      simp only at w2
      split at w2
      · exact w2.elim
      · obtain ⟨n3, t3, o3⟩ := b2.now.setP t2 p2 e3
        have p4 := p3.set (v := v) (r := r) o3 fun a x y => at_ne p1 rq x y
        cases e4 : setV j q s3 with
        | nx s4 =>
          rw [e4] at w2
          obtain ⟨n4, t4, _⟩ := n3.setP t3 p4 e4
          exact ⟨v, u, rfl, w2 _ G2 H2 n4 t4⟩
        | bad => rw [e4] at w2; exact w2.elim
        | _ => have z := setV_not e4 (fun _ z => nomatch z); cases z
    | bad => rw [e3] at w2; exact w2.elim
    | _ => have z := setV_not e3 (fun _ z => nomatch z); cases z)
@[simp] def sPar3 (ea eb ec : EvV) (i j l : Nat) (s : Env) : SR := SR.of (ea s) fun r s1 => SR.of (eb s1) fun q s2 => SR.of (ec s2) fun p s3 => match setV i r s3 with
  | .nx s4 => match setV j q s4 with
    | .nx s5 => setV l p s5
    | _ => .bad
  | _ => .bad
theorem ss_par3 {i j l : Nat} (h1 : SV K E ta ev) (h2 : SV K E tb ev2) (h3 : SV K E tc ev3) : SS K E (tPar3 i j l (tCons ta (tCons tb (tCons tc tNil)))) (sPar3 ev ev2 ev3 i j l) := fun e s σ G H n t D w =>
  h1 s σ G H n _ (w.of t fun r s1 v G1 H1 _ b1 t1 rr w1 => by
    have p1 := Pend.of n t b1 rr
    refine h2 s1 σ G1 H1 b1.now _ (w1.of t1 fun q s2 u G2 H2 _ b2 t2 rq w2 => ?_)
    have p2 := p1.after b2
    have p3 := Pend.of b1.now t1 b2 rq
    refine h3 s2 σ G2 H2 b2.now _ (w2.of t2 fun p s3 x G3 H3 _ b3 t3 rp w3 => ?_)
    have q1 := p2.after b3
    have q2 := p3.after b3
    have q3 := Pend.of b2.now t2 b3 rp
    cases e3 : setV i r s3 with
    | nx s4 =>
      rw [e3] at w3
      simp only at w3
      obtain ⟨n4, t4, o4⟩ := b3.now.setP t3 q1 e3
      have r2 := q2.set (v := v) (r := r) o4 fun a x y => at_ne p1 rq x y
      have r3 := q3.set (v := v) (r := r) o4 fun a x y => at_ne p2 rp x y
      cases e4 : setV j q s4 with
      | nx s5 =>
        rw [e4] at w3
        simp only at w3
        obtain ⟨n5, t5, o5⟩ := n4.setP t4 r2 e4
        have r4 := r3.set (v := u) (r := q) o5 fun a x y => at_ne p3 rp x y
        cases e5 : setV l p s5 with
        | nx s6 =>
          rw [e5] at w3
          obtain ⟨n6, t6, _⟩ := n5.setP t5 r4 e5
          exact ⟨v, u, x, rfl, w3 _ G3 H3 n6 t6⟩
        | bad => rw [e5] at w3; exact w3.elim
        | _ => have z := setV_not e5 (fun _ z => nomatch z); cases z
      | bad => rw [e4] at w3; exact w3.elim
      | _ => have z := setV_not e4 (fun _ z => nomatch z); cases z
    | bad => rw [e3] at w3; exact w3.elim
    | _ => have z := setV_not e3 (fun _ z => nomatch z); cases z)
/-! how arguments are laid -/
@[simp] def gP (is : List Nat) {α : Type} (us ws : List α) : List α := is.filterMap fun i => (us ++ ws)[i]?
theorem arr_gP {is : List Nat} : Arr K (gP is) (gP is) := fun G es fs vs zs r r' => by
  have ra := r.app r'
  unfold gP
  generalize es ++ fs = ds at ra
  generalize vs ++ zs = ws at ra
  induction is with
  | nil => exact rfl
  | cons i is ih =>
    rw [List.filterMap_cons, List.filterMap_cons]
    cases h : ds[i]? with
    | none =>
      have : ws[i]? = none := List.getElem?_eq_none (by rw [ra.len]; exact List.getElem?_eq_none_iff.mp h)
      rw [this]
      exact ih
    | some d =>
      obtain ⟨v, h1, h2⟩ := ra.get h
      rw [h1]
      exact ⟨v, _, rfl, h2, ih⟩
@[simp] def gC (is : List Nat) {α : Type} (us ws : List α) : List α := match us with
  | x :: r => x :: gP is r ws
  | [] => []
theorem arrC_gC {is : List Nat} : ArrC K (gC is) (gP is) := fun G es fs x vs zs r r' => ⟨gP is vs zs, rfl, arr_gP G es fs vs zs r r'⟩
end
end DV

set_option autoImplicit false
set_option linter.all false
set_option maxRecDepth 100000
set_option maxHeartbeats 1000000
/-! Small words: a def's end by data; a call whose cell is new; constants of a text; the classes' places. -/
namespace DV
open PySem PySem.Spec PyProof.Rows L2
/-- where the classes stand -/
structure CA where
  Machine : Addr
  Ratio : Addr := 0
  Program : Addr := 0
  Claim : Addr := 0
  Board : Addr := 0
  Market : Addr := 0
  Desk : Addr := 0
@[simp] abbrev eYes : EvT := fun s => .ok true s
section
variable {K : PySem.W.Frag} {E : XK} {te ta tb tc to : TE} {ea eb ec : EvD} {eo : EvO} {ev ev2 ev3 : EvV} {tt : TT} {et : EvT} {tr tk : TA} {er ek : EvA} {s s1 s' : Env} {σ : L2.St} {G H G1 H1 G2 H2 : Hp}
@[simp] def sRetD (ea : EvD) (s : Env) : SR := SR.of (ea s) fun d s1 => .rt (.d d) s1
theorem ss_retD (h : SD K E te ea) : SS K E (tRet te) (sRetD ea) := fun e s σ G H n t D w =>
  h s σ G H n _ (w.of t fun d s1 v G1 H1 _ b tb rr w1 => w1 v σ G1 H1 b.now tb rr)
/-- a call whose first argument is a new cell -/
@[simp] def eCallF (k m : Nat) (F : FT) (gD : List Dat → List Dat → List Dat) (ev : EvV) (ea ek : EvA) (s : Env) : Out RV := (ev s).bind fun r s0 => match r with
  | .c c => (ea s0).bind fun es s1 => (ek s1).bind fun fs s2 => if es.length + 1 = k ∧ fs.length = m then match F (some c) (gD es fs) with
      | .ok r (some _) => .ok r s2
      | _ => .bad
    else .bad
  | _ => .bad
theorem sv_callF {F : FT} {k m : Nat} {gV : List V → List V → List V} {gD : List Dat → List Dat → List Dat} {E' : XK} (hg : ArrC K gV gD) (ho : SV K E te ev) (ha : SA K E tr er) (hk : SA K E tk ek) : SV K E (tG (rFn k m (SpF K F) gV E') (tCons te tr) tk) (eCallF k m F gD ev er ek) := fun s σ G H n Q q => by
  refine ho s σ G H n _ ?_
  unfold eCallF at q
  cases h0 : ev s with
  | exc x s1 => rw [h0] at q; exact q
  | bad => rw [h0] at q; exact q
  | ok r s0 =>
    rw [h0] at q
    simp only [Out.bind_ok] at q
    intro v G0 H0 a0 rr
    split at q
    · rename_i c
      obtain ⟨a, rfl, hp, hd⟩ := rr
      refine ha s0 σ G0 H0 a0.now _ ?_
      cases h1 : er s0 with
      | exc x s1 => rw [h1] at q; exact Gets.shift (R := fun _ _ (_ : List Dat) (_ : List V) => True) (o := .exc x s1) (Q := fun _ _ => True) q a0
      | bad => rw [h1] at q; exact q
      | ok es s1 =>
        rw [h1] at q
        simp only [Out.bind_ok] at q
        intro vs G1 H1 a1 r1
        refine hk s1 σ G1 H1 a1.now _ ?_
        cases h2 : ek s1 with
        | exc x s2 => rw [h2] at q; exact Gets.shift (R := fun _ _ (_ : List Dat) (_ : List V) => True) (o := .exc x s2) (Q := fun _ _ => True) q (a0.trans a1)
        | bad => rw [h2] at q; exact q
        | ok fs s2 =>
          rw [h2] at q
          simp only [Out.bind_ok] at q
          intro zs G2 H2 a2 r2
          split at q
          · rename_i hl
            refine ⟨by rw [List.length_cons, r1.len]; exact hl.1, by rw [r2.len]; exact hl.2, ?_⟩
            have a12 := a1.trans a2
            have na : ¬ OwnA s0 σ a := fun z => n.notOwn hp (a0.lt.ownA z)
            have hd2 := hd.mv a12.mv na
            obtain ⟨ws, ew, rw_⟩ := hg G2 es fs (.ref a) vs zs (r1.mono a2.mv.g) r2
            rw [ew]
            refine ⟨G2, some (a, c), gD es fs, ws, a2.now.ex, rfl, rw_, fun b k z => by cases z; exact hd2, ?_⟩
            show FEnd K E' G2 H2 (some (a, c)) (F (some c) (gD es fs)) Q
            cases h : F (some c) (gD es fs) with
            | exc x k => rw [h] at q; exact q.elim
            | bad => rw [h] at q; exact q.elim
            | ok r k =>
              rw [h] at q
              cases k with
              | none => exact q.elim
              | some c' =>
                intro w G3 H3 mv io rr
                have aa := a0.trans a12
                have no : ∀ b, OwnA s2 σ b → ¬ ∃ l, some (a, c) = some (b, l) := fun b z ⟨l, w⟩ => by cases w; exact na (a12.lt.ownA z)
                have n3 := a2.now.mvO mv no
                refine q w G3 H3 ⟨n3, ⟨aa.mv.g.trans mv.g, mv.i, fun b o nb z => ?_, fun b nb h1 h2 h3 => ?_, fun b z => mv.e b (aa.mv.e b z)⟩, aa.lt⟩ (aa.rv n rr)
                · have ne : b ≠ a := fun w => by rw [w, hp] at z; cases z
                  exact mv.h b o (fun ⟨l, w⟩ => by cases w; exact ne rfl) (aa.mv.h b o nb z)
                · have ne : b ≠ a := fun w => h1 (by rw [w]; exact hp)
                  cases z : H b with
                  | none => exact absurd z h1
                  | some o =>
                    have e3 := aa.mv.h b o nb z
                    exact mv.d b (fun ⟨l, w⟩ => by cases w; exact ne rfl) (by rw [e3]; exact fun w => nomatch w) (fun xs w => h2 xs (by rw [z, ← e3, w])) (aa.mv.d b nb h1 h2 h3)
          · exact q.elim
    · exact q.elim
end
end DV

set_option autoImplicit false
set_option linter.all false
set_option maxRecDepth 100000
set_option maxHeartbeats 1000000
/-! A told tuple with a new list: looked at, then its list is changed; nobody looks at it any more. -/
namespace DV
open PySem PySem.Spec PyProof.Rows L2
section
variable {K : PySem.W.Frag} {E : XK} {te ta tb tc to tx : TE} {ea eb ec ex er : EvD} {eo : EvO} {ev ev2 ev3 : EvV} {tt : TT} {et : EvT} {tr tk : TA} {s s0 s1 s' : Env} {σ : L2.St} {G H G0 G1 H1 G2 H2 : Hp} {pre es : List Dat} {e : Ent} {i : Nat}
@[simp] def sRetT (ea : EvD) (eo : EvO) (s : Env) : SR := SR.of (ea s) fun d s1 => SR.of (eo s1) fun k s2 => match k with
  | .lst es => .rt (.t [d] es) s2
  | _ => .bad
theorem ss_retT (h1 : SD K E ta ea) (h2 : SO K E tb eo) : SS K E (tRet (tTup (tCons ta (tCons tb tNil)))) (sRetT ea eo) := fun e s σ G H n t D w =>
  h1 s σ G H n _ (w.of t fun d s1 v G1 H1 _ b1 t1 r1 w1 => h2 s1 σ G1 H1 b1.now _ (w1.of t1 fun k s2 u G2 H2 _ b2 t2 r2 w2 => by
    split at w2
    · rename_i es _
      obtain ⟨b, rfl, hb, gb, o, ho, xs, rfl, rs⟩ := r2
      refine ⟨by show 2 ≤ sizeLine; decide, fun p hp => ?_⟩
      have m : Mv nOne G2 H2 G2 (upd H2 p (.tup [v, .ref b])) := Mv.aside b2.now.ex hp
      have a3 := After.mvN b2.now m
      have ne : p ≠ b := fun z => by rw [z, ho] at hp; cases hp
      exact w2 _ σ G2 _ a3.now (t2.after a3) ⟨p, b, rfl, t2.mv.fresh hp, t1.mv.fresh hb, [v], xs, b2.now.ex.none_of hp, gb, ne, upd_same, by rw [upd_ne ne.symm]; exact ho, Reps.one (r1.mono b2.mv.g), rs⟩
    · exact w2.elim))
/-- the state while it is looked at -/
structure Told (K : PySem.W.Frag) (e : Ent) (i : Nat) (s0 : Env) (pre es : List Dat) (σ : L2.St) (G0 G1 H : Hp) : Prop where
  now0 : Now K s0 σ G0 H
  at0 : At e s0 σ G0 H
  now1 : Now K (s0.set i (some (.d (.tup (pre ++ [.lst es]))))) σ G1 H
  two : ∃ a b vs xs, σ[i]? = some (some (.ref a)) ∧ H a = some (.tup (vs ++ [.ref b])) ∧ H b = some (.lst xs) ∧ vs.length = pre.length ∧ xs.length = es.length ∧ G0 b = none ∧ e.H b = none ∧ ¬ OwnA s0 σ b
theorem Told.step (t : Told K e i s0 pre es σ G0 G1 H) (h : ∀ a o, H a = some o → H2 a = some o) : Told K e i s0 pre es σ G0 G1 H2 := by
  have he : ∀ a, H a ≠ none → H2 a ≠ none := fun a z => by
    cases q : H a with
    | none => exact absurd q z
    | some o => rw [h a o q]; exact fun w => nomatch w
  have m0 : Mv nOne G0 H G0 H2 := ⟨Ex.refl _, fun a o z => h a o (t.now0.ex a o z), fun a o _ => h a o, fun _ _ _ _ z => z, he⟩
  have m1 : Mv nOne G1 H G1 H2 := ⟨Ex.refl _, fun a o z => h a o (t.now1.ex a o z), fun a o _ => h a o, fun _ _ _ _ z => z, he⟩
  obtain ⟨a, b, vs, xs, h1, h2, h3, h4⟩ := t.two
  exact ⟨t.now0.mv m0, t.at0.after (After.mvN t.now0 m0), t.now1.mv m1, a, b, vs, xs, h1, h _ _ h2, h _ _ h3, h4⟩
abbrev EvU := Env → List Dat → List Dat → SR
def SU (K : PySem.W.Frag) (E : XK) (i : Nat) (u : TS) (gu : EvU) : Prop := ∀ e s0 pre es σ G0 G1 H, Told K e i s0 pre es σ G0 G1 H → ∀ D, Wants K E e D (gu s0 pre es) → u D σ H
@[simp] def uGuard (i : Nat) (et : EvT) (er : EvD) (gu : EvU) (s0 : Env) (pre es : List Dat) : SR := match et (frzE (s0.set i (some (.d (.tup (pre ++ [.lst es])))))) with
  | .ok true _ => match er (frzE (s0.set i (some (.d (.tup (pre ++ [.lst es])))))) with
    | .ok d _ => if loose d = true then .rt (.d d) s0 else .bad
    | _ => .bad
  | .ok false _ => gu s0 pre es
  | _ => .bad
theorem su_guard {u : TS} {gu : EvU} (ht : STt K E tt et) (hr : SD K E te er) (hu : SU K E i u gu) : SU K E i (tSeq (tIfS tt (tRet te) tNext) u) (uGuard i et er gu) := fun e s0 pre es σ G0 G1 H t D w => by
  have n1 := t.now1.all.2
  have nn : ∀ (s : Env) (b : Addr), ¬ OwnA (frzE s) σ b := fun s b ⟨i, p, k, h, _⟩ => frz_own h
  refine ht _ σ _ H n1 _ ?_
  unfold uGuard at w
  cases h1 : et (frzE (s0.set i (some (.d (.tup (pre ++ [.lst es])))))) with
  | exc x s1 => rw [h1] at w; exact w.elim
  | bad => rw [h1] at w; exact w.elim
  | ok c s1 =>
    rw [h1] at w
    intro c' G2 H2 a2 r2
    subst r2
    have t2 := t.step fun a o => a2.mv.h a o (nn _ a)
    cases c with
    | false => exact hu e s0 pre es σ G0 G1 H2 t2 D w
    | true =>
      simp only at w
      rw [if_pos rfl]
      refine hr _ σ _ H2 t2.now1.all.2 _ ?_
      cases h2 : er (frzE (s0.set i (some (.d (.tup (pre ++ [.lst es])))))) with
      | exc x s1 => rw [h2] at w; exact w.elim
      | bad => rw [h2] at w; exact w.elim
      | ok d s2 =>
        rw [h2] at w
        simp only at w
        intro v G3 H3 a3 r3
        split at w
        · rename_i hl
          have t3 := t2.step fun a o => a3.mv.h a o (nn _ a)
          exact w v σ G0 H3 t3.now0 t3.at0 (loose_rep hl r3)
        · exact w.elim
@[simp] def uApp (k : Nat) (ex : EvD) (r : EvS) (s0 : Env) (pre es : List Dat) : SR := if k = pre.length ∧ es.length < 100000 then SR.of (ex s0) fun _ s1 => r s1 else .bad
theorem su_app {k : Nat} {R : TS} {r : EvS} (hx : SD K E tx ex) (hr : SS K E R r) : SU K E i (tSeq (tDrop (tBM K "list" rAppend (tOp (rIx K) (tVar i) (tC (.int (k : Int)))) (tCons tx tNil))) R) (uApp k ex r) := fun e s0 pre es σ G0 G1 H t D w => by
  unfold uApp at w
  split at w
  · rename_i hk
    obtain ⟨hk, hl⟩ := hk
    obtain ⟨a, b, vs, xs, h1, h2, h3, h4, h5, gb, eb, nb⟩ := t.two
    refine ⟨.ref a, h1, .inr (.inl ⟨a, vs ++ [.ref b], (k : Int), .ref b, rfl, rfl, SqT.of h2, L2.atI_nat ?_, ?_⟩)⟩
    · rw [hk, ← h4]; simp
    · refine ⟨.inl ⟨rfl, _, .inl (.inl h3)⟩, ?_⟩
      refine hx s0 σ G0 H t.now0 _ (w.of t.at0 fun d s1 y G2 H2 _ b2 t2 r2 w2 => ?_)
      have hb2 : H2 b = some (.lst xs) := b2.mv.h b _ nb h3
      have g2 : G2 b = none := b2.mv.d b nb (by rw [h3]; exact fun z => nomatch z) (by rw [h3]; exact fun _ z => nomatch z) gb
      refine ⟨b, xs, y, rfl, rfl, hb2, Nat.lt_of_lt_of_le (by rw [h5]; exact hl) (by decide), ?_⟩
      have m := Mv.writ (o := .lst (xs ++ [y])) b2.now.ex g2
      have n3 := b2.now.mvO m fun c z q => nb (by subst q; exact b2.lt.ownA z)
      exact hr e s1 σ G2 _ n3 ⟨t2.fl, t2.mv.ent (fun c z => .inr (by subst z; exact eb)) m, t2.ix, t2.pin⟩ D w2
  · exact w.elim
@[simp] def sTold (i : Nat) (ev : EvV) (gu : EvU) (alt : EvS) (s : Env) : SR := SR.of (ev s) fun r s1 => match r, s1[i]? with
  | _, some (some (.c _ _)) => .bad
  | .t pre es, _ => if i < s1.length then gu (s1.set i none) pre es else .bad
  | .d x, _ => alt (s1.set i (some (.d x)))
  | .c _, _ => .bad
theorem now_forget (n : Now K s σ G H) {i : Nat} {v : V} (np : ∀ p k, s[i]? ≠ some (some (.c p k))) : Now K (s.set i none) (σ.set i (some v)) G H ∧ (∀ a, OwnA (s.set i none) (σ.set i (some v)) a → OwnA s σ a) ∧ (∀ e, At e s σ G H → At e (s.set i none) (σ.set i (some v)) G H) := by
  have back : ∀ (j : Nat) (o : Ow), (s.set i none)[j]? = some (some o) → i ≠ j ∧ s[j]? = some (some o) := fun j o h => by
    by_cases hi : i < s.length
    · rcases set_get hi h with ⟨rfl, e2⟩ | e2
      · cases e2
      · exact e2
    · rw [List.set_eq_of_length_le (Nat.le_of_not_lt hi)] at h
      exact ⟨fun z => by subst z; exact hi (lt_of_some h), h⟩
  refine ⟨⟨n.ex, by rw [List.length_set, List.length_set]; exact n.len, fun j x h => ?_, fun j p k h => ?_, fun j1 j2 p q k l a h1 h2 h3 h4 => ?_⟩, fun a ⟨j, p, k, h1, h2⟩ => ?_, fun e t => ⟨t.fl, t.mv, fun j p k a h1 h2 => ?_, fun j a h => ?_⟩⟩
  · obtain ⟨ne, h⟩ := back _ _ h
    obtain ⟨w, h1, h2⟩ := n.dat j x h
    exact ⟨w, by rw [List.getElem?_set_ne ne]; exact h1, h2⟩
  · obtain ⟨ne, h⟩ := back _ _ h
    obtain ⟨w, h1, h2⟩ := n.own j p k h
    exact ⟨w, by rw [List.getElem?_set_ne ne]; exact h1, h2⟩
  · obtain ⟨ne1, h1⟩ := back _ _ h1
    obtain ⟨ne2, h2⟩ := back _ _ h2
    rw [List.getElem?_set_ne ne1] at h3
    rw [List.getElem?_set_ne ne2] at h4
    exact n.sep j1 j2 p q k l a h1 h2 h3 h4
  · obtain ⟨ne, h1⟩ := back _ _ h1
    rw [List.getElem?_set_ne ne] at h2
    exact ⟨j, p, k, h1, h2⟩
  · obtain ⟨ne, h1⟩ := back _ _ h1
    rw [List.getElem?_set_ne ne] at h2
    exact t.ix j p k a h1 h2
  · obtain ⟨k, h1, h2⟩ := t.pin j a h
    have ne : i ≠ j := fun z => by subst z; exact np _ _ h1
    exact ⟨k, by rw [List.getElem?_set_ne ne]; exact h1, by rw [List.getElem?_set_ne ne]; exact h2⟩
theorem ss_told {u : TS} {gu : EvU} {alt : EvS} {i : Nat} (hc : SV K E te ev) (hu : SU K E i u gu) (ha : SS K E u alt) : SS K E (tSeq (tAsg te (gName i)) u) (sTold i ev gu alt) := fun e s σ G H n t D w =>
  hc s σ G H n _ (w.of t fun r s1 v G1 H1 _ b tb rr w1 => by
    split at w1
    · exact w1.elim
    · rename_i pre es _ hp
      obtain ⟨p, q, rfl, hp0, hq0, hd⟩ := rr
      have np : ∀ p k, s1[i]? ≠ some (some (.c p k)) := fun p k z => hp _ _ z
      obtain ⟨vs, xs, ga, gb, ne, h1, h2, r1, r2⟩ := hd
      obtain ⟨n0, o0, at0⟩ := now_forget (v := .ref p) b.now np
      obtain ⟨G2, b2, rd, off, e12⟩ := b.goodT n hp0 hq0 ⟨vs, xs, ga, gb, ne, h1, h2, r1, r2⟩
      have tg := b2.now.setD (i := i) rd fun k z => np _ _ z
      have noq : ¬ OwnA s1 σ q := fun z => n.notOwn hq0 (b.lt.ownA z)
      split at w1
      · rename_i hi
        refine hu e (s1.set i none) pre es (σ.set i (some (.ref p))) G1 G2 H1 ⟨n0, at0 e tb, by rw [List.set_set]; exact tg.now, p, q, vs, xs, List.getElem?_set_self (by rw [b.now.len]; exact hi), h1, h2, r1.len, r2.len, gb, t.mv.fresh hq0, fun z => noq (o0 q z)⟩ D w1
      · exact w1.elim
    · rename_i x _ hp
      have np : ∀ p k, s1[i]? ≠ some (some (.c p k)) := fun p k z => hp _ _ z
      have tg := b.now.setD (i := i) rr fun k z => np _ _ z
      exact ha e _ _ G1 H1 tg.now (tb.tgt tg) D w1
    · exact w1.elim)
/-- list + list as a cell -/
@[simp] def eAddO (ea eb : EvD) (s : Env) : Out Cel := (ea s).bind fun a s1 => (eb s1).bind fun b s2 => match a, b with
  | .lst x, .lst y => if x.length + y.length ≤ 100000 then .ok (.lst (x ++ y)) s2 else .bad
  | _, _ => .bad
theorem so_add (h1 : SD K E ta ea) (h2 : SD K E tb eb) : SO K E (tOp (bAdd K) ta tb) (eAddO ea eb) := fun s σ G H n Q q => by
  refine h1 s σ G H n _ ?_
  unfold eAddO at q
  cases e1 : ea s with
  | exc x s1 => rw [e1] at q; exact q
  | bad => rw [e1] at q; exact q
  | ok a s1 =>
    rw [e1] at q
    simp only [Out.bind_ok] at q
    intro v G1 H1 a1 r1
    refine h2 s1 σ G1 H1 a1.now _ ?_
    cases e2 : eb s1 with
    | exc x s2 => rw [e2] at q; exact Gets.shift (R := fun _ _ (_ : List Dat) (_ : List V) => True) (o := .exc x s2) (Q := fun _ _ => True) q a1
    | bad => rw [e2] at q; exact q
    | ok b s2 =>
      rw [e2] at q
      simp only [Out.bind_ok] at q
      intro u G2 H2 a2 r2
      split at q
      · rename_i x y
        split at q
        · rename_i hl
          have r1' := r1.mono a2.mv.g
          obtain ⟨p, xs, rfl, hp, rx⟩ := r1'
          obtain ⟨p', ys, rfl, hp', ry⟩ := r2
          refine .inr (.inr ⟨p, p', xs, ys, rfl, rfl, ex_l a2.now.ex hp, ex_l a2.now.ex hp', by rw [rx.len, ry.len]; exact Nat.le_trans hl (by decide), fun z hz => ?_⟩)
          exact q _ G2 _ ((a1.trans a2).trans (After.mvN a2.now (Mv.aside a2.now.ex hz))) ⟨z, rfl, (a1.trans a2).mv.fresh hz, a2.now.ex.none_of hz, _, upd_same, xs ++ ys, rfl, rx.app ry⟩
        · exact q.elim
      · exact q.elim
theorem sd_bad : SD K E te (fun _ => .bad) := fun s σ G H n Q q => q.elim
theorem vals_gP {is : List Nat} {vs zs : List V} {us ws : List Value} (h : Vals vs us) (h' : Vals zs ws) : Vals (gP is vs zs) (gP is us ws) := by
  have ha := h.append h'
  unfold gP
  generalize vs ++ zs = a at ha
  generalize us ++ ws = b at ha
  induction is with
  | nil => exact .nil
  | cons i is ih =>
    rw [List.filterMap_cons, List.filterMap_cons]
    cases e : a[i]? with
    | none =>
      have : b[i]? = none := ha.none_of e
      rw [this]
      exact ih
    | some d =>
      obtain ⟨v, h1, h2⟩ := ha.get e
      rw [h1]
      exact .cons h2 ih
/-- str(x), repr(x) by an own method -/
@[simp] def aOwnS (Cl : Addr) (F : FT) : List Dat → Option Dat
  | [.ins C' fs xs] => if C' = Cl then match F none [.ins C' fs xs] with
      | .ok (.d (.str z)) _ => some (.str z)
      | _ => none
    else none
  | _ => none
theorem cs_ownS {Cl : Addr} {F : FT} {E' : XK} : CbS K (rOwnS Cl (rFn 1 0 (SpF K F) idv E')) (aOwnS Cl F) := fun as d h G H xs I R rs Q q => by
  unfold aOwnS at h
  split at h
  · rename_i C' fs ds
    split at h
    · rename_i hc
      subst hc
      obtain ⟨x, rfl, r1⟩ := rs.only
      have r1' := r1
      obtain ⟨a, dx, ws, rfl, hg, hl, rw_⟩ := r1
      refine ⟨a, dx, _, rfl, I.ex _ _ hg, rfl, rfl, G, none, [.ins C' fs ds], [.ref a], I.ex, rfl, Reps.one r1', (fun b k z => nomatch z), ?_⟩
      show FEnd K E' G H none (F none [.ins C' fs ds]) _
      split at h
      · rename_i z k e
        cases h
        rw [e]
        exact fun v G2 H2 m _ rr => ⟨z, rr, q _ _ G2 H2 rfl ⟨m.g, m.i, trivial, fun a o _ z => m.h a o (fun ⟨l, w⟩ => nomatch w) z, fun a h1 h2 h3 => m.d a (fun ⟨l, w⟩ => nomatch w) h1 h2 h3⟩ rfl⟩
      · cases h
    · cases h
  · cases h
end
end DV

set_option Elab.async false
set_option autoImplicit false
set_option linter.all false
set_option maxRecDepth 100000
namespace DV
open PySem PySem.Spec PyProof.Rows L2
abbrev smallS : PySem.Str := "abcdefghijklmnopqrstuvwxyz"
abbrev silentS : PySem.Str := ""

def F_is_integer (C : CA) : FT := runB 1 1
    ((sRetD (eAndV (eCB aIsi (eCons (eVar 0) (eCons (eC (.obj (.ty "int"))) eNil))) (eNotV (eCB aIsi (eCons (eVar 0) (eCons (eC (.obj (.ty "bool"))) eNil)))))))
def F_is_list (C : CA) : FT := runB 1 1
    ((sRetD (eCB aIsi (eCons (eVar 0) (eCons (eTup (eCons (eC (.obj (.ty "list"))) (eCons (eC (.obj (.ty "tuple"))) eNil))) eNil)))))
def F_is_word (C : CA) : FT := runB 1 2
    ((sRetD (eAndV (eCB aIsi (eCons (eVar 0) (eCons (eC (.obj (.ty "str"))) eNil))) (eCB aAll (eCons (eFz (eLc (eWalk (eVar 0)) (gN 1) eYes (eOp aIn (eVar 1) (eC (.str smallS))) [1])) eNil)))))
def F_is_letter (C : CA) : FT := runB 1 1
    ((sRetD (eAndV (eVD (eCall 1 0 (F_is_word C) (fun es _ => es) (eCons (eVar 0) eNil) eNil)) (eOp aEq (eCB aLen (eCons (eVar 0) eNil)) (eC (.int 1))))))
def F_want_word (C : CA) : FT := runB 1 1
    ((sIf (eNot (eTs (eVD (eCall 1 0 (F_is_word C) (fun es _ => es) (eCons (eVar 0) eNil) eNil))))
      (fun _ => .bad)
      sNext))
def F_want_letter (C : CA) : FT := runB 1 1
    ((sIf (eNot (eTs (eVD (eCall 1 0 (F_is_letter C) (fun es _ => es) (eCons (eVar 0) eNil) eNil))))
      (fun _ => .bad)
      sNext))
def F_is_heard (C : CA) : FT := runB 1 3
    ((sRetD (eAndV (eVD (eCall 1 0 (F_is_word C) (fun es _ => es) (eCons (eVar 0) eNil) eNil)) (eCB aAll (eCons (eFz (eLc (eZip (eCons (eVar 0) (eCons (eSl (eVar 0) (eOi (some (eC (.int 1)))) (eOi none)) eNil))) (gTu 2 (gConss (gN 1) (gConss (gN 2) gNils))) eYes (eOp aLt (eVar 1) (eVar 2)) [1, 2])) eNil)))))
def F_is_place (C : CA) : FT := runB 2 2
    ((sRetD (eAndV (eVD (eCall 1 0 (F_is_integer C) (fun es _ => es) (eCons (eVar 0) eNil) eNil)) (eChain aLe aLt (eC (.int 0)) (eVar 0) (eVar 1)))))
def F_is_step (C : CA) : FT := runB 2 2
    ((sSeq (sIf (eOr (eNot (eTs (eCB aIsi (eCons (eVar 0) (eCons (eC (.obj (.ty "tuple"))) eNil))))) (eOr (eTs (eOp aNe (eCB aLen (eCons (eVar 0) eNil)) (eC (.int 3)))) (eNot (eTs (eVD (eCall 2 0 (F_is_place C) (fun es _ => es) (eCons (eOp aIx (eVar 0) (eC (.int 0))) (eCons (eVar 1) eNil)) eNil))))))
      (sRetD (eC (.bl false)))
      sNext)
      (sSeq (sIf (eOr (eNot (eTs (eCB aIsi (eCons (eOp aIx (eVar 0) (eC (.int 1))) (eCons (eC (.obj (.ty "str"))) eNil))))) (eAnd (eTs (eOp aNe (eOp aIx (eVar 0) (eC (.int 1))) (eC (.str silentS)))) (eNot (eTs (eVD (eCall 1 0 (F_is_letter C) (fun es _ => es) (eCons (eOp aIx (eVar 0) (eC (.int 1))) eNil) eNil))))))
      (sRetD (eC (.bl false)))
      sNext)
      (sRetD (eVD (eCall 2 0 (F_is_place C) (fun es _ => es) (eCons (eOp aIx (eVar 0) (eC (.int 2))) (eCons (eVar 1) eNil)) eNil))))))
def F_want_steps (C : CA) : FT := runB 2 4
    ((sSeq (sIf (eNot (eTs (eVD (eCall 1 0 (F_is_list C) (fun es _ => es) (eCons (eVar 0) eNil) eNil))))
      (fun _ => .bad)
      sNext)
      (sFor (eEnum (eCons (eVar 0) eNil)) (gTu 2 (gConss (gN 2) (gConss (gN 3) gNils)))
      (sIf (eOr (eNot (eTs (eVD (eCall 2 0 (F_is_step C) (fun es _ => es) (eCons (eVar 3) (eCons (eVar 1) eNil)) eNil)))) (eTs (eOp aIn (eVar 3) (eSl (eVar 0) (eOi none) (eOi (some (eVar 2)))))))
      (fun _ => .bad)
      sNext))))
def F_want_begins (C : CA) : FT := runB 2 4
    ((sSeq (sIf (eOr (eNot (eTs (eVD (eCall 1 0 (F_is_list C) (fun es _ => es) (eCons (eVar 0) eNil) eNil)))) (eTs (eOp aEq (eCB aLen (eCons (eVar 0) eNil)) (eC (.int 0)))))
      (fun _ => .bad)
      sNext)
      (sFor (eEnum (eCons (eVar 0) eNil)) (gTu 2 (gConss (gN 2) (gConss (gN 3) gNils)))
      (sIf (eOr (eNot (eTs (eVD (eCall 2 0 (F_is_place C) (fun es _ => es) (eCons (eVar 3) (eCons (eVar 1) eNil)) eNil)))) (eTs (eOp aIn (eVar 3) (eSl (eVar 0) (eOi none) (eOi (some (eVar 2)))))))
      (fun _ => .bad)
      sNext))))
def F_letters_in (C : CA) : FT := runB 1 2
    ((sRetD (eJoin (eC (.str "")) (eFz (eNew aSSet (eFz (eLc (eWalk (eVar 0)) (gN 1) (eTs (eOp aNe (eOp aIx (eVar 1) (eC (.int 1))) (eC (.str silentS)))) (eOp aIx (eVar 1) (eC (.int 1))) [1])))))))
def F_Machine___init__ (C : CA) : FT := runB 4 4
    ((sSeq (sIf (eOr (eNot (eTs (eVD (eCall 1 0 (F_is_integer C) (fun es _ => es) (eCons (eVar 1) eNil) eNil)))) (eNot (eTs (eChain aLe aLe (eC (.int 1)) (eVar 1) (eC (.int 8))))))
      (fun _ => .bad)
      sNext)
      (sSeq (sDrop (eVD (eCall 2 0 (F_want_steps C) (fun es _ => es) (eCons (eVar 2) (eCons (eVar 1) eNil)) eNil)))
      (sSeq (sDrop (eVD (eCall 2 0 (F_want_begins C) (fun es _ => es) (eCons (eVar 3) (eCons (eVar 1) eNil)) eNil)))
      (sSeq (sIf (eTs (eOp aGt (eCB aLen (eCons (eVar 2) eNil)) (eC (.int 40))))
      (fun _ => .bad)
      sNext)
      (sSeq (sIf (eTs (eOp aGt (eCB aLen (eCons (eVD (eCall 1 0 (F_letters_in C) (fun es _ => es) (eCons (eVar 2) eNil) eNil)) eNil)) (eC (.int 6))))
      (fun _ => .bad)
      sNext)
      (sSeq (sPut [C.Machine] 0 "own_places" (eVar 1))
      (sSeq (sPut [C.Machine] 0 "own_steps" (eFz (eCBN aSorted (eCons (eVar 2) eNil))))
      (sPut [C.Machine] 0 "own_begins" (eFz (eCBN aSorted (eCons (eVar 3) eNil))))))))))))
def F_Machine_places (C : CA) : FT := runB 1 1
    ((sRetD (eFld [C.Machine] "own_places" (eVar 0))))
def F_Machine_letters (C : CA) : FT := runB 1 1
    ((sRetD (eVD (eCall 1 0 (F_letters_in C) (fun es _ => es) (eCons (eFld [C.Machine] "own_steps" (eVar 0)) eNil) eNil))))
def F_Machine_steps (C : CA) : FT := runB 1 1
    ((sRetD (eFz (eCBN aList (eCons (eFld [C.Machine] "own_steps" (eVar 0)) eNil)))))
def F_Machine_begins (C : CA) : FT := runB 1 1
    ((sRetD (eFz (eCBN aList (eCons (eFld [C.Machine] "own_begins" (eVar 0)) eNil)))))
def F_Machine___repr__ (C : CA) : FT := runB 1 1
    ((sRetD (eJoined (ejCons (eC (.str "Machine(")) (ejCons (eFmt (eFld [C.Machine] "own_places" (eVar 0))) (ejCons (eC (.str ", ")) (ejCons (eFmtR (eFld [C.Machine] "own_steps" (eVar 0))) (ejCons (eC (.str ", ")) (ejCons (eFmtR (eFld [C.Machine] "own_begins" (eVar 0))) (ejCons (eC (.str ")")) ejNil))))))))))
/-- repr, of a machine too -/
def aReprU (C : CA) : List Dat → Option Dat := fun as => match aOwnS C.Machine (F_Machine___repr__ C) as with
  | some d => some d
  | none => aRepr as

def F_want_heard (C : CA) : FT := runB 2 3
    ((sIf (eOr (eNot (eTs (eVD (eCall 1 0 (F_is_heard C) (fun es _ => es) (eCons (eVar 1) eNil) eNil)))) (eNot (eTs (eCB aAll (eCons (eFz (eLc (eWalk (eVar 1)) (gN 2) eYes (eOp aIn (eVar 2) (eVD (eProp C.Machine (F_Machine_letters C) (eVar 0)))) [2])) eNil)))))
      (fun _ => .bad)
      sNext))
def F_want_place (C : CA) : FT := runB 2 2
    ((sIf (eNot (eTs (eVD (eCall 2 0 (F_is_place C) (fun es _ => es) (eCons (eVar 1) (eCons (eVD (eProp C.Machine (F_Machine_places C) (eVar 0))) eNil)) eNil))))
      (fun _ => .bad)
      sNext))
def F_closed (C : CA) : FT := runB 3 10
    ((sSeq (sPar3 (eOV (eCBN aList (eCons (eVar 2) eNil))) (eOV (eCBN aList (eCons (eVar 2) eNil))) (eDV (eVD (eMeth C.Machine "steps" 1 0 (F_Machine_steps C) (fun es _ => es) (eVar 0) eNil eNil))) 3 4 5)
      (sSeq (sWhile (eLoT (eTs (eOp aNe (eVar 4) (eFz (eLst eNil)))))
      (sSeq (sAsg (ePop 4) (gN 6))
      (sFor (eWalk (eVar 5)) (gTu 3 (gConss (gN 7) (gConss (gN 8) (gConss (gN 9) gNils))))
      (sIf (eLoT (eAnd (eTs (eOp aEq (eVar 7) (eVar 6))) (eAnd (eTs (eOp aNotIn (eVar 9) (eVar 3))) (eOr (eTs (eOp aEq (eVar 8) (eC (.str "")))) (eTs (eOp aNotIn (eVar 8) (eVar 1)))))))
      (sSeq (sDrop (eApp 3 (eVar 9)))
      (sDrop (eApp 4 (eVar 9))))
      sNext))))
      (sRetD (eCB aTuple (eCons (eFz (eCBN aSorted (eCons (eVar 3) eNil))) eNil))))))
def F_chart_after (C : CA) : FT := runB 4 8
    ((sSeq (sAsg (eFz (eNew aSSet (eFz (eLc (eWalk (eVD (eMeth C.Machine "steps" 1 0 (F_Machine_steps C) (fun es _ => es) (eVar 0) eNil eNil))) (gTu 3 (gConss (gN 5) (gConss (gN 6) (gConss (gN 7) gNils)))) (eAnd (eTs (eOp aIn (eVar 5) (eVar 2))) (eTs (eOp aEq (eVar 6) (eVar 3)))) (eVar 7) [5, 6, 7])))) (gN 4))
      (sRetD (eVD (eCall 3 0 (F_closed C) (fun es _ => es) (eCons (eVar 0) (eCons (eVar 1) (eCons (eVar 4) eNil))) eNil)))))
def F_letters_next (C : CA) : FT := runB 3 7
    ((sSeq (sAsg (eFz (eLc (eWalk (eVD (eMeth C.Machine "steps" 1 0 (F_Machine_steps C) (fun es _ => es) (eVar 0) eNil eNil))) (gTu 3 (gConss (gN 4) (gConss (gN 5) (gConss (gN 6) gNils)))) (eAnd (eTs (eOp aIn (eVar 4) (eVar 2))) (eTs (eOp aNe (eVar 5) (eC (.str ""))))) (eVar 5) [4, 5, 6])) (gN 3))
      (sRetD (eJoin (eC (.str "")) (eFz (eLc (eWalk (eVar 1)) (gN 5) (eTs (eOp aIn (eVar 5) (eVar 3))) (eVar 5) [5]))))))
def F_is_tuple_of_places (C : CA) : FT := runB 2 5
    ((sSeq (sIf (eOr (eNot (eTs (eCB aIsi (eCons (eVar 0) (eCons (eC (.obj (.ty "tuple"))) eNil))))) (eOr (eTs (eOp aEq (eCB aLen (eCons (eVar 0) eNil)) (eC (.int 0)))) (eNot (eTs (eCB aAll (eCons (eFz (eLc (eWalk (eVar 0)) (gN 2) eYes (eVD (eCall 2 0 (F_is_place C) (fun es _ => es) (eCons (eVar 2) (eCons (eVar 1) eNil)) eNil)) [2])) eNil))))))
      (sRetD (eC (.bl false)))
      sNext)
      (sRetD (eCB aAll (eCons (eFz (eLc (eZip (eCons (eVar 0) (eCons (eSl (eVar 0) (eOi (some (eC (.int 1)))) (eOi none)) eNil))) (gTu 2 (gConss (gN 3) (gConss (gN 4) gNils))) eYes (eOp aLt (eVar 3) (eVar 4)) [3, 4])) eNil)))))
def F_is_chart (C : CA) : FT := runB 3 3
    ((sSeq (sDrop (eVD (eCall 2 0 (F_want_heard C) (fun es _ => es) (eCons (eVar 0) (eCons (eVar 1) eNil)) eNil)))
      (sRetD (eAndV (eVD (eCall 2 0 (F_is_tuple_of_places C) (fun es _ => es) (eCons (eVar 2) (eCons (eVD (eProp C.Machine (F_Machine_places C) (eVar 0))) eNil)) eNil)) (eOp aEq (eVD (eCall 3 0 (F_closed C) (fun es _ => es) (eCons (eVar 0) (eCons (eVar 1) (eCons (eVar 2) eNil))) eNil)) (eVar 2))))))
def F_want_chart (C : CA) : FT := runB 3 3
    ((sIf (eNot (eTs (eVD (eCall 3 0 (F_is_chart C) (fun es _ => es) (eCons (eVar 0) (eCons (eVar 1) (eCons (eVar 2) eNil))) eNil))))
      (fun _ => .bad)
      sNext))
def F_beginning (C : CA) : FT := runB 2 2
    ((sRetD (eVD (eCall 3 0 (F_closed C) (fun es _ => es) (eCons (eVar 0) (eCons (eVar 1) (eCons (eVD (eMeth C.Machine "begins" 1 0 (F_Machine_begins C) (fun es _ => es) (eVar 0) eNil eNil)) eNil))) eNil))))
def F_first_chart (C : CA) : FT := runB 2 2
    ((sSeq (sDrop (eVD (eCall 2 0 (F_want_heard C) (fun es _ => es) (eCons (eVar 0) (eCons (eVar 1) eNil)) eNil)))
      (sRetD (eVD (eCall 2 0 (F_beginning C) (fun es _ => es) (eCons (eVar 0) (eCons (eVar 1) eNil)) eNil)))))
def F_chart_then (C : CA) : FT := runB 4 4
    ((sSeq (sDrop (eVD (eCall 3 0 (F_want_chart C) (fun es _ => es) (eCons (eVar 0) (eCons (eVar 1) (eCons (eVar 2) eNil))) eNil)))
      (sSeq (sDrop (eVD (eCall 1 0 (F_want_letter C) (fun es _ => es) (eCons (eVar 3) eNil) eNil)))
      (sSeq (sIf (eTs (eOp aNotIn (eVar 3) (eVD (eCall 3 0 (F_letters_next C) (fun es _ => es) (eCons (eVar 0) (eCons (eVar 1) (eCons (eVar 2) eNil))) eNil))))
      (sRetD (eC .non))
      sNext)
      (sRetD (eVD (eCall 4 0 (F_chart_after C) (fun es _ => es) (eCons (eVar 0) (eCons (eVar 1) (eCons (eVar 2) (eCons (eVar 3) eNil)))) eNil)))))))
def F_led_by (C : CA) : FT := runB 4 6
    ((sSeq (sAsg (eVar 2) (gN 4))
      (sSeq (sFor (eWalk (eVar 3)) (gN 5)
      (sSeq (sIf (eTs (eOp aNotIn (eVar 5) (eVD (eCall 3 0 (F_letters_next C) (fun es _ => es) (eCons (eVar 0) (eCons (eVar 1) (eCons (eVar 4) eNil))) eNil))))
      (sRetD (eC .non))
      sNext)
      (sAsg (eVD (eCall 4 0 (F_chart_after C) (fun es _ => es) (eCons (eVar 0) (eCons (eVar 1) (eCons (eVar 4) (eCons (eVar 5) eNil)))) eNil)) (gN 4))))
      (sRetD (eVar 4)))))
def F_chart_behind (C : CA) : FT := runB 3 3
    ((sSeq (sDrop (eVD (eCall 2 0 (F_want_heard C) (fun es _ => es) (eCons (eVar 0) (eCons (eVar 1) eNil)) eNil)))
      (sSeq (sDrop (eVD (eCall 1 0 (F_want_word C) (fun es _ => es) (eCons (eVar 2) eNil) eNil)))
      (sRetD (eVD (eCall 4 0 (F_led_by C) (fun es _ => es) (eCons (eVar 0) (eCons (eVar 1) (eCons (eVD (eCall 2 0 (F_beginning C) (fun es _ => es) (eCons (eVar 0) (eCons (eVar 1) eNil)) eNil)) (eCons (eVar 2) eNil)))) eNil))))))
def F_next_letters (C : CA) : FT := runB 3 3
    ((sSeq (sDrop (eVD (eCall 3 0 (F_want_chart C) (fun es _ => es) (eCons (eVar 0) (eCons (eVar 1) (eCons (eVar 2) eNil))) eNil)))
      (sRetD (eVD (eCall 3 0 (F_letters_next C) (fun es _ => es) (eCons (eVar 0) (eCons (eVar 1) (eCons (eVar 2) eNil))) eNil)))))
def F_is_run (C : CA) : FT := runB 2 5
    ((sSeq (sIf (eOr (eNot (eTs (eCB aIsi (eCons (eVar 1) (eCons (eC (.obj (.ty "tuple"))) eNil))))) (eOr (eTs (eOp aNe (eCB aLen (eCons (eVar 1) eNil)) (eC (.int 2)))) (eNot (eTs (eVD (eCall 2 0 (F_is_place C) (fun es _ => es) (eCons (eOp aIx (eVar 1) (eC (.int 0))) (eCons (eVD (eProp C.Machine (F_Machine_places C) (eVar 0))) eNil)) eNil))))))
      (sRetD (eC (.bl false)))
      sNext)
      (sSeq (sIf (eOr (eTs (eOp aNotIn (eOp aIx (eVar 1) (eC (.int 0))) (eVD (eMeth C.Machine "begins" 1 0 (F_Machine_begins C) (fun es _ => es) (eVar 0) eNil eNil)))) (eNot (eTs (eVD (eCall 1 0 (F_is_list C) (fun es _ => es) (eCons (eOp aIx (eVar 1) (eC (.int 1))) eNil) eNil)))))
      (sRetD (eC (.bl false)))
      sNext)
      (sSeq (sPar (eDV (eOp aIx (eVar 1) (eC (.int 0)))) (eDV (eVD (eMeth C.Machine "steps" 1 0 (F_Machine_steps C) (fun es _ => es) (eVar 0) eNil eNil))) 2 3)
      (sSeq (sFor (eWalk (eOp aIx (eVar 1) (eC (.int 1)))) (gN 4)
      (sSeq (sIf (eOr (eNot (eTs (eVD (eCall 2 0 (F_is_step C) (fun es _ => es) (eCons (eVar 4) (eCons (eVD (eProp C.Machine (F_Machine_places C) (eVar 0))) eNil)) eNil)))) (eOr (eTs (eOp aNotIn (eVar 4) (eVar 3))) (eTs (eOp aNe (eOp aIx (eVar 4) (eC (.int 0))) (eVar 2)))))
      (sRetD (eC (.bl false)))
      sNext)
      (sAsg (eOp aIx (eVar 4) (eC (.int 2))) (gN 2))))
      (sRetD (eC (.bl true))))))))
def F_want_run (C : CA) : FT := runB 2 2
    ((sIf (eNot (eTs (eVD (eCall 2 0 (F_is_run C) (fun es _ => es) (eCons (eVar 0) (eCons (eVar 1) eNil)) eNil))))
      (fun _ => .bad)
      sNext))
def F_stop_of (C : CA) : FT := runB 2 4
    ((sSeq (sDrop (eVD (eCall 2 0 (F_want_run C) (fun es _ => es) (eCons (eVar 0) (eCons (eVar 1) eNil)) eNil)))
      (sSeq (sAsg (eVar 1) (gTu 2 (gConss (gN 2) (gConss (gN 3) gNils))))
      (sRetD (eIf (eTs (eOp aGt (eCB aLen (eCons (eVar 3) eNil)) (eC (.int 0)))) (eOp aIx (eOp aIx (eVar 3) (eUn aNeg (eC (.int 1)))) (eC (.int 2))) (eVar 2))))))
def F_heard_of (C : CA) : FT := runB 3 6
    ((sSeq (sDrop (eVD (eCall 2 0 (F_want_heard C) (fun es _ => es) (eCons (eVar 0) (eCons (eVar 1) eNil)) eNil)))
      (sSeq (sDrop (eVD (eCall 2 0 (F_want_run C) (fun es _ => es) (eCons (eVar 0) (eCons (eVar 2) eNil)) eNil)))
      (sRetD (eJoin (eC (.str "")) (eFz (eLc (eWalk (eOp aIx (eVar 2) (eC (.int 1)))) (gTu 3 (gConss (gN 3) (gConss (gN 4) (gConss (gN 5) gNils)))) (eTs (eOp aIn (eVar 4) (eVar 1))) (eVar 4) [3, 4, 5])))))))
def F_next_spots (C : CA) : FT := runB 4 8
    ((sSeq (sAsg (eVar 3) (gTu 2 (gConss (gN 4) (gConss (gN 5) gNils))))
      (sSeq (sAsgV (eOV (eLst eNil)) 6)
      (sSeq (sFor (eWalk (eVD (eMeth C.Machine "steps" 1 0 (F_Machine_steps C) (fun es _ => es) (eVar 0) eNil eNil))) (gN 7)
      (sIf (eAnd (eTs (eOp aEq (eOp aIx (eVar 7) (eC (.int 0))) (eVar 4))) (eOr (eTs (eOp aEq (eOp aIx (eVar 7) (eC (.int 1))) (eC (.str "")))) (eTs (eOp aNotIn (eOp aIx (eVar 7) (eC (.int 1))) (eVar 1)))))
      (sDrop (eApp 6 (eTup (eCons (eVar 7) (eCons (eTup (eCons (eOp aIx (eVar 7) (eC (.int 2))) (eCons (eVar 5) eNil))) eNil)))))
      (sIf (eAnd (eTs (eOp aEq (eOp aIx (eVar 7) (eC (.int 0))) (eVar 4))) (eTs (eOp aEq (eOp aIx (eVar 7) (eC (.int 1))) (eSl (eVar 2) (eOi (some (eVar 5))) (eOi (some (eOp aAdd (eVar 5) (eC (.int 1)))))))))
      (sDrop (eApp 6 (eTup (eCons (eVar 7) (eCons (eTup (eCons (eOp aIx (eVar 7) (eC (.int 2))) (eCons (eOp aAdd (eVar 5) (eC (.int 1))) eNil))) eNil)))))
      sNext)))
      (sRetD (eVar 6))))))
def F_spots_from (C : CA) : FT := runB 3 9
    ((sSeq (sAsgV (eOV eDNewT) 3)
      (sSeq (sFor (eWalk (eVD (eMeth C.Machine "begins" 1 0 (F_Machine_begins C) (fun es _ => es) (eVar 0) eNil eNil))) (gN 4)
      (sAsg (eC .non) (gSubD 3 (eTup (eCons (eVar 4) (eCons (eC (.int 0)) eNil))))))
      (sSeq (sAsgV (eOV (eListT 3)) 5)
      (sSeq (sWhile (eLoT (eTs (eOp aNe (eVar 5) (eFz (eLst eNil)))))
      (sSeq (sAsg (ePopAt 5 (eC (.int 0))) (gN 6))
      (sFor (eWalk (eVD (eCall 4 0 (F_next_spots C) (fun es _ => es) (eCons (eVar 0) (eCons (eVar 1) (eCons (eVar 2) (eCons (eVar 6) eNil)))) eNil))) (gTu 2 (gConss (gN 7) (gConss (gN 8) gNils)))
      (sIf (eLoT (eTs (eDIn true (eVar 8) (eVar 3))))
      (sSeq (sAsg (eTup (eCons (eVar 6) (eCons (eVar 7) eNil))) (gSubD 3 (eVar 8)))
      (sDrop (eApp 5 (eVar 8))))
      sNext))))
      (sRetD (eVar 3)))))))
def F_run_for (C : CA) : FT := runB 4 8
    ((sSeq (sDrop (eVD (eCall 2 0 (F_want_heard C) (fun es _ => es) (eCons (eVar 0) (eCons (eVar 1) eNil)) eNil)))
      (sSeq (sDrop (eVD (eCall 1 0 (F_want_word C) (fun es _ => es) (eCons (eVar 2) eNil) eNil)))
      (sSeq (sDrop (eVD (eCall 2 0 (F_want_place C) (fun es _ => es) (eCons (eVar 0) (eCons (eVar 3) eNil)) eNil)))
      (sSeq (sIf (eTs (eOp aGt (eCB aLen (eCons (eVar 2) eNil)) (eC (.int 400))))
      (fun _ => .bad)
      sNext)
      (sSeq (sAsg (eVD (eCall 3 0 (F_spots_from C) (fun es _ => es) (eCons (eVar 0) (eCons (eVar 1) (eCons (eVar 2) eNil))) eNil)) (gN 4))
      (sSeq (sPar (eDV (eTup (eCons (eVar 3) (eCons (eCB aLen (eCons (eVar 2) eNil)) eNil)))) (eOV (eLst eNil)) 5 6)
      (sSeq (sIf (eTs (eDIn true (eVar 5) (eVar 4)))
      (sRetD (eC .non))
      sNext)
      (sSeq (sWhile (eTs (eOp aIsNot (eDGet (eVar 4) (eVar 5)) (eC .non)))
      (sSeq (sAsg (eDGet (eVar 4) (eVar 5)) (gTu 2 (gConss (gN 5) (gConss (gN 7) gNils))))
      (sDrop (eApp 6 (eVar 7)))))
      (sRetT (eOp aIx (eVar 5) (eC (.int 0))) (eNew aRev (eVar 6))))))))))))
def F__law_pot (C : CA) : FT := runB 2 3
    ((sSeq (sAsg (eOp aAdd (eOp aMul (eC (.int 29)) (eVar 1)) (eC (.int 17))) (gN 2))
      (sSeq (sIf (eTs (eOp aLt (eVar 1) (eCB aLen (eCons (eVar 0) eNil))))
      (sAsg (eCB aAbs (eCons (eOp aIx (eVar 0) (eVar 1)) eNil)) (gN 2))
      sNext)
      (sRet (eOV (eLst (eCons (eCB aMax (eCons (eC (.int 0)) (eCons (eOp aSub (eVar 2) (eOp aPow (eC (.int 10)) (eC (.int 18)))) eNil))) (eCons (eOp aAdd (eOp aMod (eOp aMul (eCB aInt (eCons (eOp aAdd (eOp aMod (eCB aInt (eCons (eVar 2) eNil)) (eC (.int 2147483549))) (eC (.int 5))) eNil)) (eOp aPow (eOp aAdd (eOp aMul (eC (.int 2)) (eVar 1)) (eC (.int 3))) (eC (.int 3)))) (eC (.int 2147483477))) (eC (.int 1))) eNil))))))))
def F__law_draw (C : CA) : FT := runB 2 3
    ((sSeq (sIf (eLoT (eTs (eOp aGt (eIxV aIx 0 (eC (.int 0))) (eC (.int 0)))))
      (sSeq (sAsg (eCB aDivmod (eCons (eIxV aIx 0 (eC (.int 0))) (eCons (eVar 1) eNil))) (gTu 2 (gConss (gSubL 0 (eC (.int 0))) (gConss (gN 2) gNils))))
      (sRetD (eVar 2)))
      sNext)
      (sSeq (sAsg (eOp aMod (eCB aInt (eCons (eOp aAdd (eOp aMul (eIxV aIx 0 (eC (.int 1))) (eC (.int 48271))) (eC (.int 11411))) eNil)) (eC (.int 2147483587))) (gSubL 0 (eC (.int 1))))
      (sRetD (eOp aMod (eCB aInt (eCons (eOp aFd (eOp aMod (eCB aInt (eCons (eOp aMul (eIxV aIx 0 (eC (.int 1))) (eIxV aIx 0 (eC (.int 1)))) eNil)) (eC (.int 2147483549))) (eC (.int 11))) eNil)) (eVar 1))))))
def F__law_pick (C : CA) : FT := runB 2 2
    ((sRetD (eOp aIx (eVar 1) (eVD (eCallC 0 2 0 (F__law_draw C) (fun es _ => es) (eCons (eCB aLen (eCons (eVar 1) eNil)) eNil) eNil)))))
def F__law_net (C : CA) : FT := runB 2 9
    ((sSeq (sPar (eDV (eOp aAdd (eC (.int 1)) (eVD (eCallC 0 2 0 (F__law_draw C) (fun es _ => es) (eCons (eVar 1) eNil) eNil)))) (eDV (eVD (eCallC 0 2 0 (F__law_pick C) (fun es _ => es) (eCons (eFz (eLst (eCons (eFz (eLst (eCons (eC (.str "a")) (eCons (eC (.str "b")) (eCons (eC (.str "")) eNil))))) (eCons (eFz (eLst (eCons (eC (.str "a")) (eCons (eC (.str "b")) (eCons (eC (.str "c")) (eCons (eC (.str "")) eNil)))))) (eCons (eFz (eLst (eCons (eC (.str "a")) (eCons (eC (.str "")) eNil)))) (eCons (eFz (eLst (eCons (eC (.str "z")) (eCons (eC (.str "k")) eNil)))) eNil)))))) eNil) eNil))) 2 3)
      (sSeq (sAsgV (eOV (eLst eNil)) 4)
      (sSeq (sFor (eRng (eCons (eVD (eCallC 0 2 0 (F__law_draw C) (fun es _ => es) (eCons (eOp aAdd (eOp aMul (eC (.int 3)) (eVar 2)) (eC (.int 2))) eNil) eNil)) eNil)) (gN 5)
      (sSeq (sAsg (eTup (eCons (eVD (eCallC 0 2 0 (F__law_draw C) (fun es _ => es) (eCons (eVar 2) eNil) eNil)) (eCons (eVD (eCallC 0 2 0 (F__law_pick C) (fun es _ => es) (eCons (eVar 3) eNil) eNil)) (eCons (eVD (eCallC 0 2 0 (F__law_draw C) (fun es _ => es) (eCons (eVar 2) eNil) eNil)) eNil)))) (gN 6))
      (sIf (eLoT (eTs (eOp aNotIn (eVar 6) (eVar 4))))
      (sDrop (eApp 4 (eVar 6)))
      sNext)))
      (sSeq (sAsg (eFz (eLc (eRng (eCons (eVar 2) eNil)) (gN 8) (eTs (eOp aEq (eVD (eCallC 0 2 0 (F__law_draw C) (fun es _ => es) (eCons (eC (.int 3)) eNil) eNil)) (eC (.int 0)))) (eVar 8) [8])) (gN 7))
      (sRetD (eFz (eDisp (ePc (eC (.str "many")) (eVar 2) (ePc (eC (.str "steps")) (eVar 4) (ePc (eC (.str "begins")) (eIf (eTs (eOp aNe (eVar 7) (eFz (eLst eNil)))) (eVar 7) (eFz (eLst (eCons (eVD (eCallC 0 2 0 (F__law_draw C) (fun es _ => es) (eCons (eVar 2) eNil) eNil)) eNil)))) ePn)))))))))))
def F__law_made (C : CA) : FT := runB 1 1
    ((sRetD (eFz (eMake C.Machine 3 0 (F_Machine___init__ C) (fun es _ => es) (eCons (eDGet (eVar 0) (eC (.str "many"))) (eCons (eDGet (eVar 0) (eC (.str "steps"))) (eCons (eDGet (eVar 0) (eC (.str "begins"))) eNil))) eNil))))
def F__law_signs (C : CA) : FT := runB 1 4
    ((sRetD (eJoin (eC (.str "")) (eFz (eNew aSSet (eFz (eLc (eWalk (eDGet (eVar 0) (eC (.str "steps")))) (gTu 3 (gConss (gN 1) (gConss (gN 2) (gConss (gN 3) gNils)))) eYes (eVar 2) [1, 2, 3])))))))
def F__law_ears (C : CA) : FT := runB 2 3
    ((sRetD (eJoin (eC (.str "")) (eFz (eLc (eWalk (eVD (eCall 1 0 (F__law_signs C) (fun es _ => es) (eCons (eVar 1) eNil) eNil))) (gN 2) (eTs (eOp aGt (eVD (eCallC 0 2 0 (F__law_draw C) (fun es _ => es) (eCons (eC (.int 3)) eNil) eNil)) (eC (.int 0)))) (eVar 2) [2])))))
def F__law_pairs (C : CA) : FT := runB 3 12
    ((sSeq (sPar (eOV (eLc (eWalk (eDGet (eVar 0) (eC (.str "begins")))) (gN 11) eYes (eTup (eCons (eVar 11) (eCons (eC (.int 0)) eNil))) [11])) (eDV (eC (.int 0))) 3 4)
      (sSeq (sWhile (eLoT (eTs (eOp aLt (eVar 4) (eCB aLen (eCons (eVar 3) eNil)))))
      (sSeq (sAsg (eIxV aIx 3 (eVar 4)) (gTu 2 (gConss (gN 5) (gConss (gN 6) gNils))))
      (sSeq (sFor (eWalk (eDGet (eVar 0) (eC (.str "steps")))) (gTu 3 (gConss (gN 7) (gConss (gN 8) (gConss (gN 9) gNils))))
      (sSeq (sAsg (eC .non) (gN 10))
      (sSeq (sIf (eAnd (eTs (eOp aEq (eVar 7) (eVar 5))) (eOr (eTs (eOp aEq (eVar 8) (eC (.str "")))) (eTs (eOp aNotIn (eVar 8) (eVar 1)))))
      (sAsg (eTup (eCons (eVar 9) (eCons (eVar 6) eNil))) (gN 10))
      (sIf (eAnd (eTs (eOp aEq (eVar 7) (eVar 5))) (eAnd (eTs (eOp aLt (eVar 6) (eCB aLen (eCons (eVar 2) eNil)))) (eTs (eOp aEq (eOp aIx (eVar 2) (eVar 6)) (eVar 8)))))
      (sAsg (eTup (eCons (eVar 9) (eCons (eOp aAdd (eVar 6) (eC (.int 1))) eNil))) (gN 10))
      sNext))
      (sIf (eLoT (eAnd (eTs (eOp aIsNot (eVar 10) (eC .non))) (eTs (eOp aNotIn (eVar 10) (eVar 3)))))
      (sDrop (eApp 3 (eVar 10)))
      sNext))))
      (sAsg (eOp aAdd (eVar 4) (eC (.int 1))) (gN 4)))))
      (sRetD (eVar 3)))))
def F__law_due (C : CA) : FT := runB 3 6
    ((sSeq (sAsg (eFz (eCBN aSorted (eCons (eFz (eLc (eWalk (eVD (eCall 3 0 (F__law_pairs C) (fun es _ => es) (eCons (eVar 0) (eCons (eVar 1) (eCons (eVar 2) eNil))) eNil))) (gTu 2 (gConss (gN 4) (gConss (gN 5) gNils))) (eTs (eOp aEq (eVar 5) (eCB aLen (eCons (eVar 2) eNil)))) (eVar 4) [4, 5])) eNil))) (gN 3))
      (sRetD (eIf (eTs (eOp aNe (eVar 3) (eFz (eLst eNil)))) (eCB aTuple (eCons (eVar 3) eNil)) (eC .non)))))
def F__law_is_for (C : CA) : FT := runB 5 8
    ((sSeq (sIf (eOr (eNot (eTs (eCB aIsi (eCons (eVar 4) (eCons (eC (.obj (.ty "tuple"))) eNil))))) (eOr (eTs (eOp aNe (eCB aLen (eCons (eVar 4) eNil)) (eC (.int 2)))) (eOr (eNot (eTs (eCB aIsi (eCons (eOp aIx (eVar 4) (eC (.int 1))) (eCons (eC (.obj (.ty "list"))) eNil))))) (eTs (eOp aNotIn (eOp aIx (eVar 4) (eC (.int 0))) (eDGet (eVar 0) (eC (.str "begins"))))))))
      (sRetD (eC (.bl false)))
      sNext)
      (sSeq (sPar (eDV (eOp aIx (eVar 4) (eC (.int 0)))) (eDV (eC (.str ""))) 5 6)
      (sSeq (sFor (eWalk (eOp aIx (eVar 4) (eC (.int 1)))) (gN 7)
      (sSeq (sIf (eOr (eTs (eOp aNotIn (eVar 7) (eDGet (eVar 0) (eC (.str "steps"))))) (eTs (eOp aNe (eOp aIx (eVar 7) (eC (.int 0))) (eVar 5))))
      (sRetD (eC (.bl false)))
      sNext)
      (sSeq (sAsg (eOp aIx (eVar 7) (eC (.int 2))) (gN 5))
      (sAsg (eOp aAdd (eVar 6) (eIf (eTs (eOp aIn (eOp aIx (eVar 7) (eC (.int 1))) (eVar 1))) (eOp aIx (eVar 7) (eC (.int 1))) (eC (.str "")))) (gN 6)))))
      (sRetD (eAndV (eOp aEq (eVar 5) (eVar 3)) (eOp aEq (eVar 6) (eVar 2))))))))
def F__law_run_right (C : CA) : FT := runB 6 8
    ((sTold 6 (eCall 4 0 (F_run_for C) (fun es _ => es) (eCons (eVar 0) (eCons (eVar 2) (eCons (eVar 3) (eCons (eVar 4) eNil)))) eNil)
      (uGuard 6 (eOr (eTs (eOp aIs (eVar 5) (eC .non))) (eTs (eOp aNotIn (eVar 4) (eVar 5)))) (eAndV (eOp aIs (eVar 6) (eC .non)) (eOp aIs (eVD (eCall 0 4 (F_run_for C) (gP [3, 2, 1, 0]) eNil (eCons (eVar 4) (eCons (eVar 3) (eCons (eVar 2) (eCons (eVar 0) eNil)))))) (eC .non)))
      (uGuard 6 (eOr (eNot (eTs (eVD (eCall 5 0 (F__law_is_for C) (fun es _ => es) (eCons (eVar 1) (eCons (eVar 2) (eCons (eVar 3) (eCons (eVar 4) (eCons (eVar 6) eNil))))) eNil)))) (eTs (eOp aIsNot (eVD (eCall 2 0 (F_is_run C) (fun es _ => es) (eCons (eVar 0) (eCons (eVar 6) eNil)) eNil)) (eC (.bl true))))) (eC (.bl false))
      (uGuard 6 (eTs (eOp aNe (eFz (eLst (eCons (eVD (eCall 3 0 (F_heard_of C) (fun es _ => es) (eCons (eVar 0) (eCons (eVar 2) (eCons (eVar 6) eNil))) eNil)) (eCons (eVD (eCall 2 0 (F_stop_of C) (fun es _ => es) (eCons (eVar 0) (eCons (eVar 6) eNil)) eNil)) eNil)))) (eFz (eLst (eCons (eVar 3) (eCons (eVar 4) eNil)))))) (eC (.bl false))
      (uApp 1 (eC .non) (sSeq (sAsg (eVD (eCall 0 4 (F_run_for C) (gP [3, 2, 1, 0]) eNil (eCons (eVar 4) (eCons (eVar 3) (eCons (eVar 2) (eCons (eVar 0) eNil)))))) (gN 7))
      (sRetD (eVD (eCall 5 0 (F__law_is_for C) (fun es _ => es) (eCons (eVar 1) (eCons (eVar 2) (eCons (eVar 3) (eCons (eVar 4) (eCons (eVar 7) eNil))))) eNil))))))))
      (sSeq (sIf (eOr (eTs (eOp aIs (eVar 5) (eC .non))) (eTs (eOp aNotIn (eVar 4) (eVar 5)))) (sRet (eDV (eAndV (eOp aIs (eVar 6) (eC .non)) (eOp aIs (eVD (eCall 0 4 (F_run_for C) (gP [3, 2, 1, 0]) eNil (eCons (eVar 4) (eCons (eVar 3) (eCons (eVar 2) (eCons (eVar 0) eNil)))))) (eC .non))))) sNext) (sSeq (sIf (eOr (eNot (eTs (eVD (eCall 5 0 (F__law_is_for C) (fun es _ => es) (eCons (eVar 1) (eCons (eVar 2) (eCons (eVar 3) (eCons (eVar 4) (eCons (eVar 6) eNil))))) eNil)))) (eTs (eOp aIsNot (eVD (eCall 2 0 (F_is_run C) (fun es _ => es) (eCons (eVar 0) (eCons (eVar 6) eNil)) eNil)) (eC (.bl true))))) (sRet (eDV (eC (.bl false)))) sNext) (sSeq (sIf (eTs (eOp aNe (eFz (eLst (eCons (eVD (eCall 3 0 (F_heard_of C) (fun es _ => es) (eCons (eVar 0) (eCons (eVar 2) (eCons (eVar 6) eNil))) eNil)) (eCons (eVD (eCall 2 0 (F_stop_of C) (fun es _ => es) (eCons (eVar 0) (eCons (eVar 6) eNil)) eNil)) eNil)))) (eFz (eLst (eCons (eVar 3) (eCons (eVar 4) eNil)))))) (sRet (eDV (eC (.bl false)))) sNext) (sSeq (sDrop (fun _ => .bad)) (sSeq (sAsg (eVD (eCall 0 4 (F_run_for C) (gP [3, 2, 1, 0]) eNil (eCons (eVar 4) (eCons (eVar 3) (eCons (eVar 2) (eCons (eVar 0) eNil)))))) (gN 7))
      (sRetD (eVD (eCall 5 0 (F__law_is_for C) (fun es _ => es) (eCons (eVar 1) (eCons (eVar 2) (eCons (eVar 3) (eCons (eVar 4) (eCons (eVar 7) eNil))))) eNil))))))))))
def F__law_word_right (C : CA) : FT := runB 4 10
    ((sSeq (sAsg (eVD (eCall 3 0 (F__law_due C) (fun es _ => es) (eCons (eVar 1) (eCons (eVar 2) (eCons (eVar 3) eNil))) eNil)) (gN 4))
      (sSeq (sAsg (eFz (eLst (eCons (eVD (eCall 3 0 (F_chart_behind C) (fun es _ => es) (eCons (eVar 0) (eCons (eVar 2) (eCons (eVar 3) eNil))) eNil)) (eCons (eVD (eCall 0 3 (F_chart_behind C) (gP [2, 1, 0]) eNil (eCons (eVar 3) (eCons (eVar 2) (eCons (eVar 0) eNil))))) eNil)))) (gN 5))
      (sSeq (sIf (eTs (eOp aNe (eCB (aReprU C) (eCons (eVar 5) eNil)) (eCB (aReprU C) (eCons (eFz (eLst (eCons (eVar 4) (eCons (eVar 4) eNil)))) eNil))))
      (sRetD (eC (.bl false)))
      sNext)
      (sSeq (sIf (eNot (eTs (eCB aAll (eCons (eFz (eLc (eRng (eCons (eDGet (eVar 1) (eC (.str "many"))) eNil)) (gN 9) eYes (eVD (eCall 6 0 (F__law_run_right C) (fun es _ => es) (eCons (eVar 0) (eCons (eVar 1) (eCons (eVar 2) (eCons (eVar 3) (eCons (eVar 9) (eCons (eVar 4) eNil)))))) eNil)) [9])) eNil))))
      (sRetD (eC (.bl false)))
      sNext)
      (sSeq (sIf (eTs (eOp aIs (eVar 4) (eC .non)))
      (sRetD (eC (.bl true)))
      sNext)
      (sSeq (sAsg (eJoin (eC (.str "")) (eFz (eLc (eWalk (eVar 2)) (gN 7) (eTs (eOp aIsNot (eVD (eCall 3 0 (F__law_due C) (fun es _ => es) (eCons (eVar 1) (eCons (eVar 2) (eCons (eOp aAdd (eVar 3) (eVar 7)) eNil))) eNil)) (eC .non))) (eVar 7) [7]))) (gN 6))
      (sSeq (sIf (eOr (eTs (eOp aIsNot (eVD (eCall 3 0 (F_is_chart C) (fun es _ => es) (eCons (eVar 0) (eCons (eVar 2) (eCons (eVar 4) eNil))) eNil)) (eC (.bl true)))) (eTs (eOp aNe (eVD (eCall 3 0 (F_next_letters C) (fun es _ => es) (eCons (eVar 0) (eCons (eVar 2) (eCons (eVar 4) eNil))) eNil)) (eVar 6))))
      (sRetD (eC (.bl false)))
      sNext)
      (sSeq (sFor (eWalk (eC (.str "abckz"))) (gN 7)
      (sSeq (sAsg (eIf (eTs (eOp aIn (eVar 7) (eVar 2))) (eVD (eCall 3 0 (F__law_due C) (fun es _ => es) (eCons (eVar 1) (eCons (eVar 2) (eCons (eOp aAdd (eVar 3) (eVar 7)) eNil))) eNil)) (eC .non)) (gN 8))
      (sSeq (sAsg (eFz (eLst (eCons (eVD (eCall 4 0 (F_chart_then C) (fun es _ => es) (eCons (eVar 0) (eCons (eVar 2) (eCons (eVar 4) (eCons (eVar 7) eNil)))) eNil)) (eCons (eVD (eCall 0 4 (F_chart_then C) (gP [3, 2, 1, 0]) eNil (eCons (eVar 7) (eCons (eVar 4) (eCons (eVar 2) (eCons (eVar 0) eNil)))))) eNil)))) (gN 5))
      (sIf (eTs (eOp aNe (eCB (aReprU C) (eCons (eVar 5) eNil)) (eCB (aReprU C) (eCons (eFz (eLst (eCons (eVar 8) (eCons (eVar 8) eNil)))) eNil))))
      (sRetD (eC (.bl false)))
      sNext))))
      (sRetD (eC (.bl true))))))))))))
def F__law_right (C : CA) : FT := runB 1 12
    ((sSeq (sAsg (eVD (eCallC 0 2 0 (F__law_net C) (fun es _ => es) (eCons (eC (.int 5)) eNil) eNil)) (gN 1))
      (sSeq (sAsg (eTup (eCons (eVD (eCall 1 0 (F__law_made C) (fun es _ => es) (eCons (eVar 1) eNil) eNil)) (eCons (eVD (eCallC 0 2 0 (F__law_ears C) (fun es _ => es) (eCons (eVar 1) eNil) eNil)) eNil))) (gTu 2 (gConss (gN 2) (gConss (gN 3) gNils))))
      (sSeq (sAsg (eCB (aReprU C) (eCons (eVar 2) eNil)) (gN 4))
      (sSeq (sIf (eOr (eTs (eOp aNe (eCB (aReprU C) (eCons (eVD (eCall 2 0 (F_first_chart C) (fun es _ => es) (eCons (eVar 2) (eCons (eVar 3) eNil)) eNil)) eNil)) (eCB (aReprU C) (eCons (eVD (eCall 3 0 (F__law_due C) (fun es _ => es) (eCons (eVar 1) (eCons (eVar 3) (eCons (eC (.str "")) eNil))) eNil)) eNil)))) (eTs (eOp aIs (eVD (eCall 0 2 (F_first_chart C) (gP [1, 0]) eNil (eCons (eVar 3) (eCons (eVar 2) eNil)))) (eC .non))))
      (sRetD (eC (.bl false)))
      sNext)
      (sSeq (sAsgV (eOV (eAddO (eOp aAdd (eFz (eLst (eCons (eC (.str "")) eNil))) (eFz (eLc (eWalk (eC (.str "abz"))) (gN 7) eYes (eVar 7) [7]))) (eFz (eLc (eZip (eCons (eC (.str "aabbz")) (eCons (eC (.str "abbak")) eNil))) (gTu 2 (gConss (gN 8) (gConss (gN 9) gNils))) eYes (eOp aAdd (eVar 8) (eVar 9)) [8, 9])))) 5)
      (sSeq (sFor (eRng (eCons (eC (.int 4)) eNil)) (gN 6)
      (sDrop (eApp 5 (eJoin (eC (.str "")) (eFz (eLc (eRng (eCons (eOp aAdd (eC (.int 3)) (eVD (eCallC 0 2 0 (F__law_draw C) (fun es _ => es) (eCons (eC (.int 2)) eNil) eNil))) eNil)) (gN 10) eYes (eVD (eCallC 0 2 0 (F__law_pick C) (fun es _ => es) (eCons (eFz (eLst (eCons (eC (.str "a")) (eCons (eC (.str "b")) (eCons (eC (.str "c")) (eCons (eC (.str "z")) (eCons (eC (.str "a")) eNil))))))) eNil) eNil)) [10]))))))
      (sSeq (sIf (eLoT (eNot (eTs (eCB aAll (eCons (eFz (eLc (eWalk (eVar 5)) (gN 11) eYes (eVD (eCall 4 0 (F__law_word_right C) (fun es _ => es) (eCons (eVar 2) (eCons (eVar 1) (eCons (eVar 3) (eCons (eVar 11) eNil)))) eNil)) [11])) eNil)))))
      (sRetD (eC (.bl false)))
      sNext)
      (sRetD (eAndV (eOp aEq (eCB (aReprU C) (eCons (eVar 2) eNil)) (eVar 4)) (eOp aEq (eCB (aReprU C) (eCons (eVar 2) eNil)) (eCB (aReprU C) (eCons (eVD (eCall 1 0 (F__law_made C) (fun es _ => es) (eCons (eVar 1) eNil) eNil)) eNil)))))))))))))
def F_law (C : CA) : FT := runB 1 2
    ((sRetD (eCB aAll (eCons (eFz (eLc (eRng (eCons (eCB aMax (eCons (eC (.int 1)) (eCons (eCB aMin (eCons (eC (.int 3)) (eCons (eCB aLen (eCons (eVar 0) eNil)) eNil))) eNil))) eNil)) (gN 1) eYes (eVD (eCallF 1 0 (F__law_right C) (fun es _ => es) (eCall 2 0 (F__law_pot C) (fun es _ => es) (eCons (eVar 0) (eCons (eVar 1) eNil)) eNil) eNil eNil)) [1])) eNil))))
end DV

set_option Elab.async false
set_option autoImplicit false
set_option linter.all false
set_option maxRecDepth 100000
set_option maxHeartbeats 4000000
namespace DV
open PySem PySem.Spec PyProof.Rows L2
/-! ### what the text says -/
abbrev cM (K : PySem.W.Frag) : Addr := He.ga K "Machine"
structure Tx (K : PySem.W.Frag) (mg : PySem.Str → Option Value) : Prop where
  c : He5.SaysA fal fnl K
  e : exB K = true
  x : ∃ h : Heap, K.In h ∧ h.Ns mainGlobals mg
section
variable {K : PySem.W.Frag} {mg : PySem.Str → Option Value}
theorem Tx.fact (T : Tx K mg) {f : He.Fa} (h : f ∈ fal) : f.ok K = true := by
  have c1 := (He.ba (show ((fal.all fun f => f.ok K) && fnl.all fun d => d.ok K) = true from congrArg (fun z : He.AlD => z.1) T.c)).1
  exact List.all_eq_true.mp c1 f h
theorem in_glo {x : PySem.Str} (h : x ∈ glx) : He.Fa.glo x ∈ fal := by
  unfold fal
  exact List.mem_append_left _ (List.mem_append_left _ (List.mem_append_left _ (List.mem_append_left _ (List.mem_map.mpr ⟨x, h, rfl⟩))))
theorem in_keep {x : PySem.Str} (h : x ∈ glx) : He.Fa.keep x ∈ fal := by
  unfold fal
  exact List.mem_append_left _ (List.mem_append_left _ (List.mem_append_left _ (List.mem_append_right _ (List.mem_map.mpr ⟨x, h, rfl⟩))))
theorem in_free {x : PySem.Str} (h : x ∈ frx) : He.Fa.free x ∈ fal := by
  unfold fal
  exact List.mem_append_left _ (List.mem_append_left _ (List.mem_append_right _ (List.mem_map.mpr ⟨x, h, rfl⟩)))
theorem in_meth {x : PySem.Str} (h : x ∈ msx) : He.Fa.meth "Machine" x ∈ fal := by
  unfold fal
  exact List.mem_append_left _ (List.mem_append_right _ (List.mem_map.mpr ⟨x, h, rfl⟩))
theorem Tx.g_ (T : Tx K mg) (x : PySem.Str) (h : x ∈ glx := by decide +kernel) : mg x = some (.ref (He.ga K x)) := by
  obtain ⟨hp, X, G⟩ := T.x
  exact He.glo_ok X G (T.fact (in_glo h))
theorem Tx.k_ (T : Tx K mg) (x : PySem.Str) (h : x ∈ glx := by decide +kernel) : PySem.W.keepIn K (.ref (He.ga K x)) = true := T.fact (in_keep h)
theorem Tx.f_ (T : Tx K mg) (x : PySem.Str) (h : x ∈ frx := by decide +kernel) : mg x = none := by
  obtain ⟨hp, X, G⟩ := T.x
  exact He.free_ok X G (T.fact (in_free h))
theorem Tx.m_Machine (T : Tx K mg) (x : PySem.Str) (h : x ∈ msx := by decide +kernel) : Meth K (cM K) x (He.ma K (cM K) x) := He.meth_ok (T.fact (in_meth h))
theorem in_last {f : He.Fa} (h : f ∈ [He.Fa.int "MOST_PLACES" 8, .int "MOST_STEPS" 40, .int "MOST_LETTERS" 6, .int "MOST_HEARD" 400, .str "SMALL" "abcdefghijklmnopqrstuvwxyz", .str "SILENT" "", .cls "Machine", .mkr "Machine", .noat "Machine" "own_places", .noat "Machine" "own_steps", .noat "Machine" "own_begins"]) : f ∈ fal := by
  unfold fal
  exact List.mem_append_right _ h
theorem Tx.Machine_cl (T : Tx K mg) : Cls K (cM K) := He.cls_ok (x := "Machine") (T.fact (in_last (List.mem_of_getElem? (i := 6) rfl)))
theorem Tx.Machine_mk (T : Tx K mg) : Mk K (cM K) (He.ma K (cM K) "__init__") := He.mkr_ok (x := "Machine") (T.fact (in_last (List.mem_of_getElem? (i := 7) rfl)))
theorem Tx.np (T : Tx K mg) : NoAttr K (cM K) "own_places" := He.noat_ok (T.fact (in_last (List.mem_of_getElem? (i := 8) rfl)))
theorem Tx.ns (T : Tx K mg) : NoAttr K (cM K) "own_steps" := He.noat_ok (T.fact (in_last (List.mem_of_getElem? (i := 9) rfl)))
theorem Tx.nb (T : Tx K mg) : NoAttr K (cM K) "own_begins" := He.noat_ok (T.fact (in_last (List.mem_of_getElem? (i := 10) rfl)))
theorem Tx.int_ (T : Tx K mg) (x : PySem.Str) (i : Int) (h : He.Fa.int x i ∈ fal) : ∃ t, mg x = some (.int i t) := by
  obtain ⟨hp, X, G⟩ := T.x
  exact He.int_ok X G (T.fact h)
theorem Tx.str_ (T : Tx K mg) (x z : PySem.Str) (h : He.Fa.str x z ∈ fal) : ∃ t, mg x = some (.str z t) := by
  obtain ⟨hp, X, G⟩ := T.x
  exact He.str_ok X G (T.fact h)
theorem Tx.MOST_PLACES_ (T : Tx K mg) : ∃ t, mg "MOST_PLACES" = some (.int 8 t) := T.int_ _ _ (in_last (List.mem_of_getElem? (i := 0) rfl))
theorem Tx.MOST_STEPS_ (T : Tx K mg) : ∃ t, mg "MOST_STEPS" = some (.int 40 t) := T.int_ _ _ (in_last (List.mem_of_getElem? (i := 1) rfl))
theorem Tx.MOST_LETTERS_ (T : Tx K mg) : ∃ t, mg "MOST_LETTERS" = some (.int 6 t) := T.int_ _ _ (in_last (List.mem_of_getElem? (i := 2) rfl))
theorem Tx.MOST_HEARD_ (T : Tx K mg) : ∃ t, mg "MOST_HEARD" = some (.int 400 t) := T.int_ _ _ (in_last (List.mem_of_getElem? (i := 3) rfl))
theorem Tx.SMALL_ (T : Tx K mg) : ∃ t, mg "SMALL" = some (.str smallS t) := T.str_ _ _ (in_last (List.mem_of_getElem? (i := 4) rfl))
theorem Tx.SILENT_ (T : Tx K mg) : ∃ t, mg "SILENT" = some (.str silentS t) := T.str_ _ _ (in_last (List.mem_of_getElem? (i := 5) rfl))
/-- facts of one's own, one by one -/
structure Ex1 (K : PySem.W.Frag) : Prop where
  ob : PySem.W.mroIn K (cM K) (.type "object") = some true
  k1 : PySem.W.findIn K (.ref (cM K)) "__class__" = some (some (.builtin "object.__class__"))
  k2 : PySem.W.specialIn K (.builtin "object.__class__") "__get__" = some (some (.builtin "getset_descriptor.__get__"))
  k3 : PySem.W.takesIn K (.builtin "object.__class__") = some true
  pr : ∀ f ∈ (["places", "letters"] : List String), propB K (cM K) f = true
theorem Tx.ex1 (T : Tx K mg) : Ex1 K := by
  have h := T.e
  unfold exB at h
  rw [List.all_cons, List.all_nil, Bool.and_true] at h
  obtain ⟨h1, h⟩ := He.ba h
  obtain ⟨h2, h⟩ := He.ba h
  obtain ⟨h3, h⟩ := He.ba h
  obtain ⟨h4, h5⟩ := He.ba h
  exact ⟨of_decide_eq_true h1, He.eqO_ok h2, He.eqO_ok h3, of_decide_eq_true h4, fun f hf => List.all_eq_true.mp h5 f hf⟩
theorem propB_ok {C : Addr} {f : PySem.Str} (h : propB K C f = true) : PropOf K C f (He.ma K C f) (He5.wf K C "property" f) := by
  unfold propB at h
  obtain ⟨h1, h⟩ := He.ba h
  obtain ⟨h2, h⟩ := He.ba h
  obtain ⟨h3, h4⟩ := He.ba h
  refine ⟨He.eqO_ok h1, He.eqO_ok h2, of_decide_eq_true h3, ?_⟩
  unfold He5.wf
  split at h4
  · rename_i g r e
    exact ⟨r, by rw [e]⟩
  · cases h4
theorem Tx.isi (T : Tx K mg) : IsiC K (cM K) := ⟨T.Machine_cl, T.ex1.k1, T.ex1.k2, T.ex1.k3, T.ex1.ob⟩
end
/-! ### readings with the text's own part named -/
section
variable {X : Cx} {K : PySem.W.Frag} {mg : PySem.Str → Option Value} {j : Nat} {e e2 a : Expr} {te ta to : TE} {tr : TA} {tg : Expr} {f : PySem.Str} {p p2 q pos apos tpos : Pos} {es elts : List Expr} {kk n : Nat} {ts : TGs}
abbrev AtX (X : Cx) (K : PySem.W.Frag) (mg : PySem.Str → Option Value) : Prop := X.K = K ∧ X.mg = mg
theorem x_un (T : Tx K mg) (hr : RoomG j X.A) : X.A.units + 1 < cLine := by have := hr.r.un; omega
theorem x_add (T : Tx K mg) (hX : AtX X K mg := by exact ⟨rfl, rfl⟩) : OpR X (binaryOp .Add) (bAdd K) := hX.1 ▸ o_add
theorem x_eq (T : Tx K mg) (hr : RoomG j X.A) (hX : AtX X K mg := by exact ⟨rfl, rfl⟩) : OpR X (compareOp .Eq) (bEq K) := hX.1 ▸ o_eq hr
theorem x_ne (T : Tx K mg) (hr : RoomG j X.A) (hX : AtX X K mg := by exact ⟨rfl, rfl⟩) : OpR X (compareOp .NotEq) (bNe K) := hX.1 ▸ o_ne hr
theorem x_in (T : Tx K mg) (hr : RoomG j X.A) (hX : AtX X K mg := by exact ⟨rfl, rfl⟩) : OpR X (compareOp .In) (bIn K) := hX.1 ▸ o_in (by have := hr.r.un; omega)
theorem x_notIn (T : Tx K mg) (hr : RoomG j X.A) (hX : AtX X K mg := by exact ⟨rfl, rfl⟩) : OpR X (compareOp .NotIn) (bNotIn K) := hX.1 ▸ o_notIn (by have := hr.r.un; omega)
theorem x_len (T : Tx K mg) (hX : AtX X K mg := by exact ⟨rfl, rfl⟩) : CallR X (.builtin "len") (bLen K) := hX.1 ▸ k_len
theorem x_tup (T : Tx K mg) (hX : AtX X K mg := by exact ⟨rfl, rfl⟩) : CallR X (.type "tuple") (bTup K) := hX.1 ▸ k_tup
theorem x_lst (T : Tx K mg) (hX : AtX X K mg := by exact ⟨rfl, rfl⟩) : CallR X (.type "list") (bLst K) := hX.1 ▸ k_lst
theorem x_isi (T : Tx K mg) (hX : AtX X K mg := by exact ⟨rfl, rfl⟩) : CallR X (.builtin "isinstance") (bIsi K) := hX.1 ▸ k_isi
theorem x_all (T : Tx K mg) (hc : X.calm = true) (hX : AtX X K mg := by exact ⟨rfl, rfl⟩) : CallR X (.builtin "all") (rAll K) := hX.1 ▸ cr_all hc
theorem x_sort (T : Tx K mg) (hr : RoomG j X.A) (hX : AtX X K mg := by exact ⟨rfl, rfl⟩) : CallR X (.builtin "sorted") (rSortD K) := hX.1 ▸ cr_sortD (by have := hr.r.un; omega)
theorem x_sset (T : Tx K mg) (hr : RoomG j X.A) (ha : PE X a ta) (hc : X.calm = true := by rfl) (hg : Gl X "sorted" := by rfl) (hg2 : Gl X "set" := by rfl) (na : starEach [a] X.env = (false, eval a X.env) :: starEach [] X.env := by rfl) (hX : AtX X K mg := by exact ⟨rfl, rfl⟩) :
    PE X (.Call (.Name "sorted" p) [.Call (.Name "set" p2) [a] [] q] [] pos) (tSSet K ta) := by
  obtain ⟨rfl, rfl⟩ := hX
  exact pe_sortedSet hc (by have := hr.r.un; omega) hg (T.f_ "sorted") hg2 (T.f_ "set") ha na
theorem x_ix (T : Tx K mg) (hX : AtX X K mg := by exact ⟨rfl, rfl⟩) : IxR X (rIx K) := hX.1 ▸ ix_seq
theorem x_sl (T : Tx K mg) (hX : AtX X K mg := by exact ⟨rfl, rfl⟩) : SlR X (bSl K) := hX.1 ▸ o_sl
theorem x_fld (T : Tx K mg) (he : PE X e te) (hb : attributeBase e f X.env (eval e X.env) = eval e X.env) (hX : AtX X K mg := by exact ⟨rfl, rfl⟩) : PE X (.Attribute e f pos) (tFld K te f) := hX.1 ▸ pe_fld he hb
theorem x_join (T : Tx K mg) (ho : PE X e to) (he : PE X e2 te) (hX : AtX X K mg := by exact ⟨rfl, rfl⟩) (hs : starEach [e2] X.env = [(false, eval e2 X.env)] := by rfl) (hbase : attributeBase e "join" X.env (eval e X.env) = eval e X.env := by rfl) (hline : (apos.endLine == pos.line) = true := by rfl) :
    PE X (.Call (.Attribute e "join" apos) [e2] [] pos) (tM1 (rJoin K) to te) := by
  obtain ⟨rfl, rfl⟩ := hX
  exact pe_join ho he hs hbase hline
theorem x_gtup (T : Tx K mg) (h : PGs X es ts) (hX : AtX X K mg := by exact ⟨rfl, rfl⟩) (hc : X.calm = true := by rfl) (hn : (assignEach es X.env).length = n := by rfl) (hst : (assignEach es X.env).findIdx? (·.1) = none := by rfl) : PG X (.Tuple es kk pos) (gTup K n ts) := by
  obtain ⟨rfl, rfl⟩ := hX
  exact pg_tup hc h hn hst
theorem x_cstS {x z : PySem.Str} (T : Tx K mg) (h : ∃ t, mg x = some (.str z t)) (hg : Gl X x := by rfl) (hX : AtX X K mg := by exact ⟨rfl, rfl⟩) (hdb : (x == ("__debug__" : PySem.Str)) = false := by decide) : PE X (.Name x p) (tC (.str z)) := by
  obtain ⟨rfl, rfl⟩ := hX
  obtain ⟨t, h⟩ := h
  exact pe_glob (v := .str z) hg h ⟨t, rfl⟩ hdb
theorem x_cstI {x : PySem.Str} {i : Int} (T : Tx K mg) (h : ∃ t, mg x = some (.int i t)) (hg : Gl X x := by rfl) (hX : AtX X K mg := by exact ⟨rfl, rfl⟩) (hdb : (x == ("__debug__" : PySem.Str)) = false := by decide) : PE X (.Name x p) (tC (.int i)) := by
  obtain ⟨rfl, rfl⟩ := hX
  obtain ⟨t, h⟩ := h
  exact pe_glob (v := .int i) hg h ⟨t, rfl⟩ hdb
theorem x_fmtR (T : Tx K mg) (hr : RoomG j X.A) (he : PE X e te) (hX : AtX X K mg := by exact ⟨rfl, rfl⟩) : PE X (.FormattedValue e 114 none pos) (tFmtRD K te) := by
  obtain ⟨rfl, rfl⟩ := hX
  exact pe_fmtRD hr he
theorem x_walk (T : Tx K mg) (he : PE X e te) (hX : AtX X K mg := by exact ⟨rfl, rfl⟩) : PI X tg e (iWk K te) := by
  obtain ⟨rfl, rfl⟩ := hX
  refine ⟨fun pins s σ H R I q => ?_⟩
  rcases q with q | q
  · exact (pi_any he).run pins s σ H R I q
  · exact (pi_str he).run pins s σ H R I q
theorem x_zip (T : Tx K mg) (ha : PA X [e, e2] tr) (hX : AtX X K mg := by exact ⟨rfl, rfl⟩) (hg : Gl X "zip" := by rfl) (hs : starEach [e, e2] X.env = (false, eval e X.env) :: starEach [e2] X.env := by rfl) (hpl : (backTo pos (starEach [e2] X.env)).any (·.1) = false := by rfl) :
    PI X (.Tuple elts kk tpos) (.Call (.Name "zip" p) [e, e2] [] pos) (iZipX K tr) := by
  obtain ⟨rfl, rfl⟩ := hX
  exact pi_zipX hg (T.f_ "zip") ha hs hpl
theorem x_enum (T : Tx K mg) (ha : PA X [e] tr) (hX : AtX X K mg := by exact ⟨rfl, rfl⟩) (hg : Gl X "enumerate" := by rfl) (hs : starEach [e] X.env = [(false, eval e X.env)] := by rfl) : PI X (.Tuple elts kk tpos) (.Call (.Name "enumerate" p) [e] [] pos) (iEnum K tr) := by
  obtain ⟨rfl, rfl⟩ := hX
  exact pi_enum hg (T.f_ "enumerate") ha hs
end
abbrev cK (K : PySem.W.Frag) : CA := { Machine := cM K }
section
variable {K : PySem.W.Frag} {mg : PySem.Str → Option Value}
theorem h_own_places (T : Tx K mg) : ∀ C ∈ [(cK K).Machine], Cls K C ∧ NoAttr K C "own_places" := fun C h => by rw [List.mem_singleton] at h; subst h; exact ⟨T.Machine_cl, T.np⟩
theorem h_own_steps (T : Tx K mg) : ∀ C ∈ [(cK K).Machine], Cls K C ∧ NoAttr K C "own_steps" := fun C h => by rw [List.mem_singleton] at h; subst h; exact ⟨T.Machine_cl, T.ns⟩
theorem h_own_begins (T : Tx K mg) : ∀ C ∈ [(cK K).Machine], Cls K C ∧ NoAttr K C "own_begins" := fun C h => by rw [List.mem_singleton] at h; subst h; exact ⟨T.Machine_cl, T.nb⟩
end
end DV

set_option Elab.async false
set_option autoImplicit false
set_option linter.all false
set_option maxRecDepth 100000
set_option maxHeartbeats 4000000
namespace DV
open PySem PySem.Spec PyProof.Rows L2
theorem f_is_integer {P : Program} {w : World} {K : PySem.W.Frag} {mg : PySem.Str → Option Value} {base : Heap} (T : Tx K mg) {fd : FuncData} (F : FunD K d_is_integer.name d_is_integer.qual d_is_integer.params d_is_integer.body d_is_integer.scope (d_is_integer.dvs K) (d_is_integer.kws K) (d_is_integer.at_ K) fd) : FnG P w K mg base CX0 1 (d_is_integer.at_ K) fd ["value"] (SpF K (F_is_integer (cK K))) := by
  have nd := sc_is_integer.nd
  exact fn_g F sc_is_integer SpF.len fun cdv A fr s H vs Q E hr h => ⟨_, PSs.nox (pss_one (ps_ret (pe_and (pe_callB (x_isi T) rfl (T.f_ "isinstance") PyProof.Rows.boot_isinstance (pa_cons (pv 0) (pa_cons (pe_bltn (v := .ty "int") rfl (T.f_ "int") PyProof.Rows.boot_int rfl) pa_nil))) (pe_one (pe_not (pe_callB (x_isi T) rfl (T.f_ "isinstance") PyProof.Rows.boot_isinstance (pa_cons (pv 0) (pa_cons (pe_bltn (v := .ty "bool") rfl (T.f_ "bool") PyProof.Rows.boot_bool rfl) pa_nil)))))))), SpF.body (N := N_is_integer) (ar := 1) h
    (ss_retD (sd_andV (sd_cb cs_isi (sa_cons sd_var (sa_cons sd_ty sa_nil))) (sd_notV (sd_cb cs_isi (sa_cons sd_var (sa_cons sd_ty sa_nil))))))⟩
theorem k_is_integer {X : Cx} {K : PySem.W.Frag} {mg : PySem.Str → Option Value} {j : Nat} (T : Tx K mg) (hr : RoomG j X.A) (hj : 1 ≤ j := by decide) (hX : AtX X K mg := by exact ⟨rfl, rfl⟩) : CanG X (.ref (He.ga K "is_integer")) [] (rFn 1 0 (SpF K (F_is_integer (cK K))) idv E0) := by
  obtain ⟨rfl, rfl⟩ := hX
  obtain ⟨fd, F⟩ := T.c.def_ 0 (d := d_is_integer) rfl
  exact can_fn (f_is_integer T F) (hr.le hj) (kb_plain F 1 [] (fun us _ => us) (fun a _ => a) fun _ _ _ _ _ _ us ws h1 h2 => match us, h1, ws, h2 with | [_], _, [], _ => rfl) pass0
theorem f_is_list {P : Program} {w : World} {K : PySem.W.Frag} {mg : PySem.Str → Option Value} {base : Heap} (T : Tx K mg) {fd : FuncData} (F : FunD K d_is_list.name d_is_list.qual d_is_list.params d_is_list.body d_is_list.scope (d_is_list.dvs K) (d_is_list.kws K) (d_is_list.at_ K) fd) : FnG P w K mg base CX0 1 (d_is_list.at_ K) fd ["value"] (SpF K (F_is_list (cK K))) := by
  have nd := sc_is_list.nd
  exact fn_g F sc_is_list SpF.len fun cdv A fr s H vs Q E hr h => ⟨_, PSs.nox (pss_one (ps_ret (pe_callB (x_isi T) rfl (T.f_ "isinstance") PyProof.Rows.boot_isinstance (pa_cons (pv 0) (pa_cons (pe_tup (pa_cons (pe_bltn (v := .ty "list") rfl (T.f_ "list") PyProof.Rows.boot_list rfl) (pa_cons (pe_bltn (v := .ty "tuple") rfl (T.f_ "tuple") PyProof.Rows.boot_tuple rfl) pa_nil))) pa_nil))))), SpF.body (N := N_is_list) (ar := 1) h
    (ss_retD (sd_cb cs_isi (sa_cons sd_var (sa_cons (sd_tup (sa_cons sd_ty (sa_cons sd_ty sa_nil))) sa_nil))))⟩
theorem k_is_list {X : Cx} {K : PySem.W.Frag} {mg : PySem.Str → Option Value} {j : Nat} (T : Tx K mg) (hr : RoomG j X.A) (hj : 1 ≤ j := by decide) (hX : AtX X K mg := by exact ⟨rfl, rfl⟩) : CanG X (.ref (He.ga K "is_list")) [] (rFn 1 0 (SpF K (F_is_list (cK K))) idv E0) := by
  obtain ⟨rfl, rfl⟩ := hX
  obtain ⟨fd, F⟩ := T.c.def_ 1 (d := d_is_list) rfl
  exact can_fn (f_is_list T F) (hr.le hj) (kb_plain F 1 [] (fun us _ => us) (fun a _ => a) fun _ _ _ _ _ _ us ws h1 h2 => match us, h1, ws, h2 with | [_], _, [], _ => rfl) pass0
theorem f_is_word {P : Program} {w : World} {K : PySem.W.Frag} {mg : PySem.Str → Option Value} {base : Heap} (T : Tx K mg) {fd : FuncData} (F : FunD K d_is_word.name d_is_word.qual d_is_word.params d_is_word.body d_is_word.scope (d_is_word.dvs K) (d_is_word.kws K) (d_is_word.at_ K) fd) : FnG P w K mg base CX0 1 (d_is_word.at_ K) fd ["value"] (SpF K (F_is_word (cK K))) := by
  have nd := sc_is_word.nd
  exact fn_g F sc_is_word SpF.len fun cdv A fr s H vs Q E hr h => ⟨_, PSs.nox (pss_one (ps_ret (pe_and (pe_callB (x_isi T) rfl (T.f_ "isinstance") PyProof.Rows.boot_isinstance (pa_cons (pv 0) (pa_cons (pe_bltn (v := .ty "str") rfl (T.f_ "str") PyProof.Rows.boot_str rfl) pa_nil))) (pe_one (pe_callB (x_all T rfl) rfl (T.f_ "all") PyProof.Rows.boot_all (pa_cons (pe_lc (own := [("letter", 1)]) (g := gName 1) (tt := tYes) rfl nd (x_walk T (pv 0)) (blkOk_by (N := N_is_word) (sc := defScope s_is_word) (by decide +kernel)) (fun _ _ _ _ _ => pg_name (i := 1) nd rfl (Or.inl rfl)) (fun _ _ _ _ _ => pts_nil) (fun _ _ _ _ _ => (pe_cmpR (x_in (j := 0) T hr) (pv 1) (x_cstS T T.SMALL_) (by rfl)))) pa_nil)))))), SpF.body (N := N_is_word) (ar := 1) h
    (ss_retD (sd_andV (sd_cb cs_isi (sa_cons sd_var (sa_cons sd_ty sa_nil))) (sd_cb cs_all (sa_cons (sd_fz (so_lc (si_wk sd_var) sg_name st_yes (sd_op os_in sd_var sd_str) (by decide))) sa_nil))))⟩
theorem k_is_word {X : Cx} {K : PySem.W.Frag} {mg : PySem.Str → Option Value} {j : Nat} (T : Tx K mg) (hr : RoomG j X.A) (hj : 1 ≤ j := by decide) (hX : AtX X K mg := by exact ⟨rfl, rfl⟩) : CanG X (.ref (He.ga K "is_word")) [] (rFn 1 0 (SpF K (F_is_word (cK K))) idv E0) := by
  obtain ⟨rfl, rfl⟩ := hX
  obtain ⟨fd, F⟩ := T.c.def_ 2 (d := d_is_word) rfl
  exact can_fn (f_is_word T F) (hr.le hj) (kb_plain F 1 [] (fun us _ => us) (fun a _ => a) fun _ _ _ _ _ _ us ws h1 h2 => match us, h1, ws, h2 with | [_], _, [], _ => rfl) pass0
theorem f_is_letter {P : Program} {w : World} {K : PySem.W.Frag} {mg : PySem.Str → Option Value} {base : Heap} (T : Tx K mg) {fd : FuncData} (F : FunD K d_is_letter.name d_is_letter.qual d_is_letter.params d_is_letter.body d_is_letter.scope (d_is_letter.dvs K) (d_is_letter.kws K) (d_is_letter.at_ K) fd) : FnG P w K mg base CX0 2 (d_is_letter.at_ K) fd ["value"] (SpF K (F_is_letter (cK K))) := by
  have nd := sc_is_letter.nd
  exact fn_g F sc_is_letter SpF.len fun cdv A fr s H vs Q E hr h => ⟨_, PSs.nox (pss_one (ps_ret (pe_and (pe_g (ks := []) rfl (T.g_ "is_word") (T.k_ "is_word") (k_is_word (j := 1) T hr) (pa_cons (pv 0) pa_nil) pk_nil) (pe_one (pe_cmpR (x_eq (j := 1) T hr) (pe_callB (x_len T) rfl (T.f_ "len") PySem.boot_len (pa_cons (pv 0) pa_nil)) pe_int (nomark _)))))), SpF.body (N := N_is_letter) (ar := 1) h
    (ss_retD (sd_andV (sd_sv (sv_call arr_id (sa_cons sd_var sa_nil) sa_nil)) (sd_op os_eq (sd_cb cs_len (sa_cons sd_var sa_nil)) sd_int)))⟩
theorem k_is_letter {X : Cx} {K : PySem.W.Frag} {mg : PySem.Str → Option Value} {j : Nat} (T : Tx K mg) (hr : RoomG j X.A) (hj : 2 ≤ j := by decide) (hX : AtX X K mg := by exact ⟨rfl, rfl⟩) : CanG X (.ref (He.ga K "is_letter")) [] (rFn 1 0 (SpF K (F_is_letter (cK K))) idv E0) := by
  obtain ⟨rfl, rfl⟩ := hX
  obtain ⟨fd, F⟩ := T.c.def_ 3 (d := d_is_letter) rfl
  exact can_fn (f_is_letter T F) (hr.le hj) (kb_plain F 1 [] (fun us _ => us) (fun a _ => a) fun _ _ _ _ _ _ us ws h1 h2 => match us, h1, ws, h2 with | [_], _, [], _ => rfl) pass0
theorem f_want_word {P : Program} {w : World} {K : PySem.W.Frag} {mg : PySem.Str → Option Value} {base : Heap} (T : Tx K mg) {fd : FuncData} (F : FunD K d_want_word.name d_want_word.qual d_want_word.params d_want_word.body d_want_word.scope (d_want_word.dvs K) (d_want_word.kws K) (d_want_word.at_ K) fd) : FnG P w K mg base CX0 2 (d_want_word.at_ K) fd ["value"] (SpF K (F_want_word (cK K))) := by
  have nd := sc_want_word.nd
  exact fn_g F sc_want_word SpF.len fun cdv A fr s H vs Q E hr h => ⟨_, PSs.nox (pss_one (ps_if (pt_not (pt_val (pe_g (ks := []) rfl (T.g_ "is_word") (T.k_ "is_word") (k_is_word (j := 1) T hr) (pa_cons (pv 0) pa_nil) pk_nil))) (pss_one ps_never) pss_nil)), SpF.body (N := N_want_word) (ar := 1) h
    (ss_if (st_not (st_B (sd_sv (sv_call arr_id (sa_cons sd_var sa_nil) sa_nil)))) ss_never ss_next)⟩
theorem k_want_word {X : Cx} {K : PySem.W.Frag} {mg : PySem.Str → Option Value} {j : Nat} (T : Tx K mg) (hr : RoomG j X.A) (hj : 2 ≤ j := by decide) (hX : AtX X K mg := by exact ⟨rfl, rfl⟩) : CanG X (.ref (He.ga K "want_word")) [] (rFn 1 0 (SpF K (F_want_word (cK K))) idv E0) := by
  obtain ⟨rfl, rfl⟩ := hX
  obtain ⟨fd, F⟩ := T.c.def_ 4 (d := d_want_word) rfl
  exact can_fn (f_want_word T F) (hr.le hj) (kb_plain F 1 [] (fun us _ => us) (fun a _ => a) fun _ _ _ _ _ _ us ws h1 h2 => match us, h1, ws, h2 with | [_], _, [], _ => rfl) pass0
theorem f_want_letter {P : Program} {w : World} {K : PySem.W.Frag} {mg : PySem.Str → Option Value} {base : Heap} (T : Tx K mg) {fd : FuncData} (F : FunD K d_want_letter.name d_want_letter.qual d_want_letter.params d_want_letter.body d_want_letter.scope (d_want_letter.dvs K) (d_want_letter.kws K) (d_want_letter.at_ K) fd) : FnG P w K mg base CX0 3 (d_want_letter.at_ K) fd ["value"] (SpF K (F_want_letter (cK K))) := by
  have nd := sc_want_letter.nd
  exact fn_g F sc_want_letter SpF.len fun cdv A fr s H vs Q E hr h => ⟨_, PSs.nox (pss_one (ps_if (pt_not (pt_val (pe_g (ks := []) rfl (T.g_ "is_letter") (T.k_ "is_letter") (k_is_letter (j := 2) T hr) (pa_cons (pv 0) pa_nil) pk_nil))) (pss_one ps_never) pss_nil)), SpF.body (N := N_want_letter) (ar := 1) h
    (ss_if (st_not (st_B (sd_sv (sv_call arr_id (sa_cons sd_var sa_nil) sa_nil)))) ss_never ss_next)⟩
theorem k_want_letter {X : Cx} {K : PySem.W.Frag} {mg : PySem.Str → Option Value} {j : Nat} (T : Tx K mg) (hr : RoomG j X.A) (hj : 3 ≤ j := by decide) (hX : AtX X K mg := by exact ⟨rfl, rfl⟩) : CanG X (.ref (He.ga K "want_letter")) [] (rFn 1 0 (SpF K (F_want_letter (cK K))) idv E0) := by
  obtain ⟨rfl, rfl⟩ := hX
  obtain ⟨fd, F⟩ := T.c.def_ 5 (d := d_want_letter) rfl
  exact can_fn (f_want_letter T F) (hr.le hj) (kb_plain F 1 [] (fun us _ => us) (fun a _ => a) fun _ _ _ _ _ _ us ws h1 h2 => match us, h1, ws, h2 with | [_], _, [], _ => rfl) pass0
theorem f_is_heard {P : Program} {w : World} {K : PySem.W.Frag} {mg : PySem.Str → Option Value} {base : Heap} (T : Tx K mg) {fd : FuncData} (F : FunD K d_is_heard.name d_is_heard.qual d_is_heard.params d_is_heard.body d_is_heard.scope (d_is_heard.dvs K) (d_is_heard.kws K) (d_is_heard.at_ K) fd) : FnG P w K mg base CX0 2 (d_is_heard.at_ K) fd ["value"] (SpF K (F_is_heard (cK K))) := by
  have nd := sc_is_heard.nd
  exact fn_g F sc_is_heard SpF.len fun cdv A fr s H vs Q E hr h => ⟨_, PSs.nox (pss_one (ps_ret (pe_and (pe_g (ks := []) rfl (T.g_ "is_word") (T.k_ "is_word") (k_is_word (j := 1) T hr) (pa_cons (pv 0) pa_nil) pk_nil) (pe_one (pe_callB (x_all T rfl) rfl (T.f_ "all") PyProof.Rows.boot_all (pa_cons (pe_lc (own := [("one", 1), ("other", 2)]) (g := gTup K 2 (gCons (gName 1) (gCons (gName 2) gNil))) (tt := tYes) rfl nd (x_zip T (pa_cons (pv 0) (pa_cons (pe_slice (x_sl T) (pv 0) (po_some pe_int) po_none) pa_nil))) (blkOk_by (N := N_is_heard) (sc := defScope s_is_heard) (by decide +kernel)) (fun _ _ _ _ _ => x_gtup T (n := 2) (pgs_cons (pg_name (i := 1) nd rfl (Or.inl rfl)) (pgs_cons (pg_name (i := 2) nd rfl (Or.inl rfl)) pgs_nil))) (fun _ _ _ _ _ => pts_nil) (fun _ _ _ _ _ => (pe_cmpR o_ltA (pv 1) (pv 2) (nomark _)))) pa_nil)))))), SpF.body (N := N_is_heard) (ar := 1) h
    (ss_retD (sd_andV (sd_sv (sv_call arr_id (sa_cons sd_var sa_nil) sa_nil)) (sd_cb cs_all (sa_cons (sd_fz (so_lc (si_zip (sa_cons sd_var (sa_cons (sd_sl sd_var (oi_some sd_int) oi_none) sa_nil))) (sg_tup (sg_cons sg_name (sg_cons sg_name sg_nil))) st_yes (sd_op os_lt sd_var sd_var) (by decide))) sa_nil))))⟩
theorem k_is_heard {X : Cx} {K : PySem.W.Frag} {mg : PySem.Str → Option Value} {j : Nat} (T : Tx K mg) (hr : RoomG j X.A) (hj : 2 ≤ j := by decide) (hX : AtX X K mg := by exact ⟨rfl, rfl⟩) : CanG X (.ref (He.ga K "is_heard")) [] (rFn 1 0 (SpF K (F_is_heard (cK K))) idv E0) := by
  obtain ⟨rfl, rfl⟩ := hX
  obtain ⟨fd, F⟩ := T.c.def_ 6 (d := d_is_heard) rfl
  exact can_fn (f_is_heard T F) (hr.le hj) (kb_plain F 1 [] (fun us _ => us) (fun a _ => a) fun _ _ _ _ _ _ us ws h1 h2 => match us, h1, ws, h2 with | [_], _, [], _ => rfl) pass0
theorem f_is_place {P : Program} {w : World} {K : PySem.W.Frag} {mg : PySem.Str → Option Value} {base : Heap} (T : Tx K mg) {fd : FuncData} (F : FunD K d_is_place.name d_is_place.qual d_is_place.params d_is_place.body d_is_place.scope (d_is_place.dvs K) (d_is_place.kws K) (d_is_place.at_ K) fd) : FnG P w K mg base CX0 2 (d_is_place.at_ K) fd ["value", "places"] (SpF K (F_is_place (cK K))) := by
  have nd := sc_is_place.nd
  exact fn_g F sc_is_place SpF.len fun cdv A fr s H vs Q E hr h => ⟨_, PSs.nox (pss_one (ps_ret (pe_and (pe_g (ks := []) rfl (T.g_ "is_integer") (T.k_ "is_integer") (k_is_integer (j := 1) T hr) (pa_cons (pv 0) pa_nil) pk_nil) (pe_one (pe_chain o_le o_ltA pe_int (pv 0) (pv 1)))))), SpF.body (N := N_is_place) (ar := 2) h
    (ss_retD (sd_andV (sd_sv (sv_call arr_id (sa_cons sd_var sa_nil) sa_nil)) (sd_chain os_le os_lt sd_int sd_var sd_var)))⟩
theorem k_is_place {X : Cx} {K : PySem.W.Frag} {mg : PySem.Str → Option Value} {j : Nat} (T : Tx K mg) (hr : RoomG j X.A) (hj : 2 ≤ j := by decide) (hX : AtX X K mg := by exact ⟨rfl, rfl⟩) : CanG X (.ref (He.ga K "is_place")) [] (rFn 2 0 (SpF K (F_is_place (cK K))) idv E0) := by
  obtain ⟨rfl, rfl⟩ := hX
  obtain ⟨fd, F⟩ := T.c.def_ 7 (d := d_is_place) rfl
  exact can_fn (f_is_place T F) (hr.le hj) (kb_plain F 2 [] (fun us _ => us) (fun a _ => a) fun _ _ _ _ _ _ us ws h1 h2 => match us, h1, ws, h2 with | [_, _], _, [], _ => rfl) pass0
theorem f_is_step {P : Program} {w : World} {K : PySem.W.Frag} {mg : PySem.Str → Option Value} {base : Heap} (T : Tx K mg) {fd : FuncData} (F : FunD K d_is_step.name d_is_step.qual d_is_step.params d_is_step.body d_is_step.scope (d_is_step.dvs K) (d_is_step.kws K) (d_is_step.at_ K) fd) : FnG P w K mg base CX0 3 (d_is_step.at_ K) fd ["value", "places"] (SpF K (F_is_step (cK K))) := by
  have nd := sc_is_step.nd
  exact fn_g F sc_is_step SpF.len fun cdv A fr s H vs Q E hr h => ⟨_, PSs.nox (pss_cons (ps_if (PW.pt (pw_or (pt_not (pt_val (pe_callB (x_isi T) rfl (T.f_ "isinstance") PyProof.Rows.boot_isinstance (pa_cons (pv 0) (pa_cons (pe_bltn (v := .ty "tuple") rfl (T.f_ "tuple") PyProof.Rows.boot_tuple rfl) pa_nil))))) (pw_or (pt_cmpR (x_ne (j := 2) T hr) (pe_callB (x_len T) rfl (T.f_ "len") PySem.boot_len (pa_cons (pv 0) pa_nil)) pe_int (nomark _)) (pw_or1 (pt_not (pt_val (pe_g (ks := []) rfl (T.g_ "is_place") (T.k_ "is_place") (k_is_place (j := 2) T hr) (pa_cons (pe_ix (x_ix T) (pv 0) pe_int fun _ _ => rfl) (pa_cons (pv 1) pa_nil)) pk_nil))))))) (pss_one (ps_ret pe_bl)) pss_nil)
      (pss_cons (ps_if (PW.pt (pw_or (pt_not (pt_val (pe_callB (x_isi T) rfl (T.f_ "isinstance") PyProof.Rows.boot_isinstance (pa_cons (pe_ix (x_ix T) (pv 0) pe_int fun _ _ => rfl) (pa_cons (pe_bltn (v := .ty "str") rfl (T.f_ "str") PyProof.Rows.boot_str rfl) pa_nil))))) (pw_or1 (PW.pt (pw_and (pt_cmpR (x_ne (j := 2) T hr) (pe_ix (x_ix T) (pv 0) pe_int fun _ _ => rfl) (x_cstS T T.SILENT_) (nomark _)) (pw_and1 (pt_not (pt_val (pe_g (ks := []) rfl (T.g_ "is_letter") (T.k_ "is_letter") (k_is_letter (j := 2) T hr) (pa_cons (pe_ix (x_ix T) (pv 0) pe_int fun _ _ => rfl) pa_nil) pk_nil))))))))) (pss_one (ps_ret pe_bl)) pss_nil)
      (pss_one (ps_ret (pe_g (ks := []) rfl (T.g_ "is_place") (T.k_ "is_place") (k_is_place (j := 2) T hr) (pa_cons (pe_ix (x_ix T) (pv 0) pe_int fun _ _ => rfl) (pa_cons (pv 1) pa_nil)) pk_nil))))), SpF.body (N := N_is_step) (ar := 2) h
    (ss_seq (ss_if (st_or (st_not (st_B (sd_cb cs_isi (sa_cons sd_var (sa_cons sd_ty sa_nil))))) (st_or (st_test (sd_op os_ne (sd_cb cs_len (sa_cons sd_var sa_nil)) sd_int)) (st_not (st_B (sd_sv (sv_call arr_id (sa_cons (sd_op os_ix sd_var sd_int) (sa_cons sd_var sa_nil)) sa_nil)))))) (ss_retD sd_bl) ss_next)
      (ss_seq (ss_if (st_or (st_not (st_B (sd_cb cs_isi (sa_cons (sd_op os_ix sd_var sd_int) (sa_cons sd_ty sa_nil))))) (st_and (st_test (sd_op os_ne (sd_op os_ix sd_var sd_int) sd_str)) (st_not (st_B (sd_sv (sv_call arr_id (sa_cons (sd_op os_ix sd_var sd_int) sa_nil) sa_nil)))))) (ss_retD sd_bl) ss_next)
      (ss_retD (sd_sv (sv_call arr_id (sa_cons (sd_op os_ix sd_var sd_int) (sa_cons sd_var sa_nil)) sa_nil)))))⟩
theorem k_is_step {X : Cx} {K : PySem.W.Frag} {mg : PySem.Str → Option Value} {j : Nat} (T : Tx K mg) (hr : RoomG j X.A) (hj : 3 ≤ j := by decide) (hX : AtX X K mg := by exact ⟨rfl, rfl⟩) : CanG X (.ref (He.ga K "is_step")) [] (rFn 2 0 (SpF K (F_is_step (cK K))) idv E0) := by
  obtain ⟨rfl, rfl⟩ := hX
  obtain ⟨fd, F⟩ := T.c.def_ 8 (d := d_is_step) rfl
  exact can_fn (f_is_step T F) (hr.le hj) (kb_plain F 2 [] (fun us _ => us) (fun a _ => a) fun _ _ _ _ _ _ us ws h1 h2 => match us, h1, ws, h2 with | [_, _], _, [], _ => rfl) pass0
theorem f_want_steps {P : Program} {w : World} {K : PySem.W.Frag} {mg : PySem.Str → Option Value} {base : Heap} (T : Tx K mg) {fd : FuncData} (F : FunD K d_want_steps.name d_want_steps.qual d_want_steps.params d_want_steps.body d_want_steps.scope (d_want_steps.dvs K) (d_want_steps.kws K) (d_want_steps.at_ K) fd) : FnG P w K mg base CX0 4 (d_want_steps.at_ K) fd ["steps", "places"] (SpF K (F_want_steps (cK K))) := by
  have nd := sc_want_steps.nd
  exact fn_g F sc_want_steps SpF.len fun cdv A fr s H vs Q E hr h => ⟨_, PSs.nox (pss_cons (ps_if (pt_not (pt_val (pe_g (ks := []) rfl (T.g_ "is_list") (T.k_ "is_list") (k_is_list (j := 3) T hr) (pa_cons (pv 0) pa_nil) pk_nil))) (pss_one ps_never) pss_nil)
      (pss_one (ps_for PassesOwn.never rfl (x_enum T (pa_cons (pv 0) pa_nil)) (x_gtup T (n := 2) (pgs_cons (pg_name (i := 2) nd rfl (Or.inl rfl)) (pgs_cons (pg_name (i := 3) nd rfl (Or.inl rfl)) pgs_nil))) (pss_one (ps_if (PW.pt (pw_or (pt_not (pt_val (pe_g (ks := []) rfl (T.g_ "is_step") (T.k_ "is_step") (k_is_step (j := 3) T hr) (pa_cons (pv 3) (pa_cons (pv 1) pa_nil)) pk_nil))) (pw_or1 (pt_cmpR (x_in (j := 3) T hr) (pv 3) (pe_slice (x_sl T) (pv 0) po_none (po_some (pv 2))) (by rfl))))) (pss_one ps_never) pss_nil))))), SpF.body (N := N_want_steps) (ar := 2) h
    (ss_seq (ss_if (st_not (st_B (sd_sv (sv_call arr_id (sa_cons sd_var sa_nil) sa_nil)))) ss_never ss_next)
      (ss_for (si_enum (sa_cons sd_var sa_nil)) (sg_tup (sg_cons sg_name (sg_cons sg_name sg_nil))) (ss_if (st_or (st_not (st_B (sd_sv (sv_call arr_id (sa_cons sd_var (sa_cons sd_var sa_nil)) sa_nil)))) (st_test (sd_op os_in sd_var (sd_sl sd_var oi_none (oi_some sd_var))))) ss_never ss_next)))⟩
theorem k_want_steps {X : Cx} {K : PySem.W.Frag} {mg : PySem.Str → Option Value} {j : Nat} (T : Tx K mg) (hr : RoomG j X.A) (hj : 4 ≤ j := by decide) (hX : AtX X K mg := by exact ⟨rfl, rfl⟩) : CanG X (.ref (He.ga K "want_steps")) [] (rFn 2 0 (SpF K (F_want_steps (cK K))) idv E0) := by
  obtain ⟨rfl, rfl⟩ := hX
  obtain ⟨fd, F⟩ := T.c.def_ 9 (d := d_want_steps) rfl
  exact can_fn (f_want_steps T F) (hr.le hj) (kb_plain F 2 [] (fun us _ => us) (fun a _ => a) fun _ _ _ _ _ _ us ws h1 h2 => match us, h1, ws, h2 with | [_, _], _, [], _ => rfl) pass0
theorem f_want_begins {P : Program} {w : World} {K : PySem.W.Frag} {mg : PySem.Str → Option Value} {base : Heap} (T : Tx K mg) {fd : FuncData} (F : FunD K d_want_begins.name d_want_begins.qual d_want_begins.params d_want_begins.body d_want_begins.scope (d_want_begins.dvs K) (d_want_begins.kws K) (d_want_begins.at_ K) fd) : FnG P w K mg base CX0 3 (d_want_begins.at_ K) fd ["begins", "places"] (SpF K (F_want_begins (cK K))) := by
  have nd := sc_want_begins.nd
  exact fn_g F sc_want_begins SpF.len fun cdv A fr s H vs Q E hr h => ⟨_, PSs.nox (pss_cons (ps_if (PW.pt (pw_or (pt_not (pt_val (pe_g (ks := []) rfl (T.g_ "is_list") (T.k_ "is_list") (k_is_list (j := 2) T hr) (pa_cons (pv 0) pa_nil) pk_nil))) (pw_or1 (pt_cmpR (x_eq (j := 2) T hr) (pe_callB (x_len T) rfl (T.f_ "len") PySem.boot_len (pa_cons (pv 0) pa_nil)) pe_int (nomark _))))) (pss_one ps_never) pss_nil)
      (pss_one (ps_for PassesOwn.never rfl (x_enum T (pa_cons (pv 0) pa_nil)) (x_gtup T (n := 2) (pgs_cons (pg_name (i := 2) nd rfl (Or.inl rfl)) (pgs_cons (pg_name (i := 3) nd rfl (Or.inl rfl)) pgs_nil))) (pss_one (ps_if (PW.pt (pw_or (pt_not (pt_val (pe_g (ks := []) rfl (T.g_ "is_place") (T.k_ "is_place") (k_is_place (j := 2) T hr) (pa_cons (pv 3) (pa_cons (pv 1) pa_nil)) pk_nil))) (pw_or1 (pt_cmpR (x_in (j := 2) T hr) (pv 3) (pe_slice (x_sl T) (pv 0) po_none (po_some (pv 2))) (by rfl))))) (pss_one ps_never) pss_nil))))), SpF.body (N := N_want_begins) (ar := 2) h
    (ss_seq (ss_if (st_or (st_not (st_B (sd_sv (sv_call arr_id (sa_cons sd_var sa_nil) sa_nil)))) (st_test (sd_op os_eq (sd_cb cs_len (sa_cons sd_var sa_nil)) sd_int))) ss_never ss_next)
      (ss_for (si_enum (sa_cons sd_var sa_nil)) (sg_tup (sg_cons sg_name (sg_cons sg_name sg_nil))) (ss_if (st_or (st_not (st_B (sd_sv (sv_call arr_id (sa_cons sd_var (sa_cons sd_var sa_nil)) sa_nil)))) (st_test (sd_op os_in sd_var (sd_sl sd_var oi_none (oi_some sd_var))))) ss_never ss_next)))⟩
theorem k_want_begins {X : Cx} {K : PySem.W.Frag} {mg : PySem.Str → Option Value} {j : Nat} (T : Tx K mg) (hr : RoomG j X.A) (hj : 3 ≤ j := by decide) (hX : AtX X K mg := by exact ⟨rfl, rfl⟩) : CanG X (.ref (He.ga K "want_begins")) [] (rFn 2 0 (SpF K (F_want_begins (cK K))) idv E0) := by
  obtain ⟨rfl, rfl⟩ := hX
  obtain ⟨fd, F⟩ := T.c.def_ 10 (d := d_want_begins) rfl
  exact can_fn (f_want_begins T F) (hr.le hj) (kb_plain F 2 [] (fun us _ => us) (fun a _ => a) fun _ _ _ _ _ _ us ws h1 h2 => match us, h1, ws, h2 with | [_, _], _, [], _ => rfl) pass0
theorem f_letters_in {P : Program} {w : World} {K : PySem.W.Frag} {mg : PySem.Str → Option Value} {base : Heap} (T : Tx K mg) {fd : FuncData} (F : FunD K d_letters_in.name d_letters_in.qual d_letters_in.params d_letters_in.body d_letters_in.scope (d_letters_in.dvs K) (d_letters_in.kws K) (d_letters_in.at_ K) fd) : FnG P w K mg base CX0 1 (d_letters_in.at_ K) fd ["steps"] (SpF K (F_letters_in (cK K))) := by
  have nd := sc_letters_in.nd
  exact fn_g F sc_letters_in SpF.len fun cdv A fr s H vs Q E hr h => ⟨_, PSs.nox (pss_one (ps_ret (x_join T pe_str (x_sset (j := 0) T hr (pe_lc (own := [("step", 1)]) (g := gName 1) rfl nd (x_walk T (pv 0)) (blkOk_by (N := N_letters_in) (sc := defScope s_letters_in) (by decide +kernel)) (fun _ _ _ _ _ => pg_name (i := 1) nd rfl (Or.inl rfl)) (fun _ _ _ _ _ => (pts_one (pt_cmpR (x_ne (j := 0) T hr) (pe_ix (x_ix T) (pv 1) pe_int fun _ _ => rfl) (x_cstS T T.SILENT_) (nomark _)))) (fun _ _ _ _ _ => (pe_ix (x_ix T) (pv 1) pe_int fun _ _ => rfl))))))), SpF.body (N := N_letters_in) (ar := 1) h
    (ss_retD (sd_join sd_str (sd_fz (so_sset (sd_fz (so_lc (si_wk sd_var) sg_name (st_test (sd_op os_ne (sd_op os_ix sd_var sd_int) sd_str)) (sd_op os_ix sd_var sd_int) (by decide)))))))⟩
theorem k_letters_in {X : Cx} {K : PySem.W.Frag} {mg : PySem.Str → Option Value} {j : Nat} (T : Tx K mg) (hr : RoomG j X.A) (hj : 1 ≤ j := by decide) (hX : AtX X K mg := by exact ⟨rfl, rfl⟩) : CanG X (.ref (He.ga K "letters_in")) [] (rFn 1 0 (SpF K (F_letters_in (cK K))) idv E0) := by
  obtain ⟨rfl, rfl⟩ := hX
  obtain ⟨fd, F⟩ := T.c.def_ 11 (d := d_letters_in) rfl
  exact can_fn (f_letters_in T F) (hr.le hj) (kb_plain F 1 [] (fun us _ => us) (fun a _ => a) fun _ _ _ _ _ _ us ws h1 h2 => match us, h1, ws, h2 with | [_], _, [], _ => rfl) pass0
theorem f_Machine___init__ {P : Program} {w : World} {K : PySem.W.Frag} {mg : PySem.Str → Option Value} {base : Heap} (T : Tx K mg) {fd : FuncData} (F : FunD K d_Machine___init__.name d_Machine___init__.qual d_Machine___init__.params d_Machine___init__.body d_Machine___init__.scope (d_Machine___init__.dvs K) (d_Machine___init__.kws K) (d_Machine___init__.at_ K) fd) : FnG P w K mg base CX0 5 (d_Machine___init__.at_ K) fd ["self", "places", "steps", "begins"] (SpF K (F_Machine___init__ (cK K))) := by
  have nd := sc_Machine___init__.nd
  exact fn_g F sc_Machine___init__ SpF.len fun cdv A fr s H vs Q E hr h => ⟨_, PSs.nox (pss_cons (ps_if (PW.pt (pw_or (pt_not (pt_val (pe_g (ks := []) rfl (T.g_ "is_integer") (T.k_ "is_integer") (k_is_integer (j := 4) T hr) (pa_cons (pv 1) pa_nil) pk_nil))) (pw_or1 (pt_not (pt_chain o_le o_le pe_int (pv 1) (x_cstI T T.MOST_PLACES_)))))) (pss_one ps_never) pss_nil)
      (pss_cons (ps_expr (pe_g (ks := []) rfl (T.g_ "want_steps") (T.k_ "want_steps") (k_want_steps (j := 4) T hr) (pa_cons (pv 2) (pa_cons (pv 1) pa_nil)) pk_nil))
      (pss_cons (ps_expr (pe_g (ks := []) rfl (T.g_ "want_begins") (T.k_ "want_begins") (k_want_begins (j := 4) T hr) (pa_cons (pv 3) (pa_cons (pv 1) pa_nil)) pk_nil))
      (pss_cons (ps_if (pt_cmpR o_gt (pe_callB (x_len T) rfl (T.f_ "len") PySem.boot_len (pa_cons (pv 2) pa_nil)) (x_cstI T T.MOST_STEPS_) (nomark _)) (pss_one ps_never) pss_nil)
      (pss_cons (ps_if (pt_cmpR o_gt (pe_callB (x_len T) rfl (T.f_ "len") PySem.boot_len (pa_cons (pe_g (ks := []) rfl (T.g_ "letters_in") (T.k_ "letters_in") (k_letters_in (j := 4) T hr) (pa_cons (pv 2) pa_nil) pk_nil) pa_nil)) (x_cstI T T.MOST_LETTERS_) (nomark _)) (pss_one ps_never) pss_nil)
      (pss_cons (ps_fld (pv 0) (pv 1) rfl)
      (pss_cons (ps_fld (pv 0) (pe_callB (x_sort (j := 4) T hr) rfl (T.f_ "sorted") PyProof.Rows.boot_sorted (pa_cons (pv 2) pa_nil)) rfl)
      (pss_one (ps_fld (pv 0) (pe_callB (x_sort (j := 4) T hr) rfl (T.f_ "sorted") PyProof.Rows.boot_sorted (pa_cons (pv 3) pa_nil)) rfl))))))))), SpF.body (N := N_Machine___init__) (ar := 4) h
    (ss_seq (ss_if (st_or (st_not (st_B (sd_sv (sv_call arr_id (sa_cons sd_var sa_nil) sa_nil)))) (st_not (st_test (sd_chain os_le os_le sd_int sd_var sd_int)))) ss_never ss_next)
      (ss_seq (ss_drop (sd_sv (sv_call arr_id (sa_cons sd_var (sa_cons sd_var sa_nil)) sa_nil)))
      (ss_seq (ss_drop (sd_sv (sv_call arr_id (sa_cons sd_var (sa_cons sd_var sa_nil)) sa_nil)))
      (ss_seq (ss_if (st_test (sd_op os_gt (sd_cb cs_len (sa_cons sd_var sa_nil)) sd_int)) ss_never ss_next)
      (ss_seq (ss_if (st_test (sd_op os_gt (sd_cb cs_len (sa_cons (sd_sv (sv_call arr_id (sa_cons sd_var sa_nil) sa_nil)) sa_nil)) sd_int)) ss_never ss_next)
      (ss_seq (ss_put (h_own_places T) sd_var)
      (ss_seq (ss_put (h_own_steps T) (sd_fz (so_cb cn_sorted (sa_cons sd_var sa_nil))))
      (ss_put (h_own_begins T) (sd_fz (so_cb cn_sorted (sa_cons sd_var sa_nil)))))))))))⟩
theorem mk_Machine_3 {X : Cx} {j : Nat} {K : PySem.W.Frag} {mg : PySem.Str → Option Value} (T : Tx K mg) (hr : RoomG j X.A) (hj : 6 ≤ j := by decide) (hX : AtX X K mg := by exact ⟨rfl, rfl⟩) : CanG X (.ref (cM K)) [] (rMk (cM K) 3 0 (SpF K (F_Machine___init__ (cK K))) idv E0) := by
  obtain ⟨rfl, rfl⟩ := hX
  obtain ⟨fd, F⟩ := T.c.def_ 12 (d := d_Machine___init__) rfl
  exact can_make T.Machine_mk (f_Machine___init__ T F) (hr.le hj) (kb_plain F 4 [] (fun us _ => us) (fun a _ => a) fun _ _ _ _ _ _ us ws h1 h2 => match us, h1, ws, h2 with | [_, _, _, _], _, [], _ => rfl) pass0
theorem f_Machine_places {P : Program} {w : World} {K : PySem.W.Frag} {mg : PySem.Str → Option Value} {base : Heap} (T : Tx K mg) {fd : FuncData} (F : FunD K d_Machine_places.name d_Machine_places.qual d_Machine_places.params d_Machine_places.body d_Machine_places.scope (d_Machine_places.dvs K) (d_Machine_places.kws K) (d_Machine_places.at_ K) fd) : FnG P w K mg base CX0 1 (d_Machine_places.at_ K) fd ["self"] (SpF K (F_Machine_places (cK K))) := by
  have nd := sc_Machine_places.nd
  exact fn_g F sc_Machine_places SpF.len fun cdv A fr s H vs Q E hr h => ⟨_, PSs.nox (pss_one (ps_ret (x_fld T (pv 0) rfl))), SpF.body (N := N_Machine_places) (ar := 1) h
    (ss_retD (sd_fld (h_own_places T) sd_var))⟩
theorem p_Machine_places {X : Cx} {j : Nat} {e : Expr} {to : TE} {pos : Pos} {K : PySem.W.Frag} {mg : PySem.Str → Option Value} (T : Tx K mg) (hr : RoomG j X.A) (he : PE X e to) (hj : 2 ≤ j := by decide) (hX : AtX X K mg := by exact ⟨rfl, rfl⟩) (hab : attributeBase e "places" X.env (eval e X.env) = eval e X.env := by rfl) : PE X (.Attribute e "places" pos) (tPropG (cM K) (SpF K (F_Machine_places (cK K))) E0 to) := by
  obtain ⟨rfl, rfl⟩ := hX
  obtain ⟨fd, F⟩ := T.c.def_ 13 (d := d_Machine_places) rfl
  exact pe_propG he T.Machine_cl (propB_ok (T.ex1.pr "places" (by decide))) (f_Machine_places T F) (hr.le hj) (kb_plain F 1 [] (fun us _ => us) (fun a _ => a) fun _ _ _ _ _ _ us ws h1 h2 => match us, h1, ws, h2 with | [_], _, [], _ => rfl) (fun _ => rfl) pass0 hab
end DV

set_option Elab.async false
set_option autoImplicit false
set_option linter.all false
set_option maxRecDepth 100000
set_option maxHeartbeats 4000000
namespace DV
open PySem PySem.Spec PyProof.Rows L2
theorem f_Machine_letters {P : Program} {w : World} {K : PySem.W.Frag} {mg : PySem.Str → Option Value} {base : Heap} (T : Tx K mg) {fd : FuncData} (F : FunD K d_Machine_letters.name d_Machine_letters.qual d_Machine_letters.params d_Machine_letters.body d_Machine_letters.scope (d_Machine_letters.dvs K) (d_Machine_letters.kws K) (d_Machine_letters.at_ K) fd) : FnG P w K mg base CX0 2 (d_Machine_letters.at_ K) fd ["self"] (SpF K (F_Machine_letters (cK K))) := by
  have nd := sc_Machine_letters.nd
  exact fn_g F sc_Machine_letters SpF.len fun cdv A fr s H vs Q E hr h => ⟨_, PSs.nox (pss_one (ps_ret (pe_g (ks := []) rfl (T.g_ "letters_in") (T.k_ "letters_in") (k_letters_in (j := 1) T hr) (pa_cons (x_fld T (pv 0) rfl) pa_nil) pk_nil))), SpF.body (N := N_Machine_letters) (ar := 1) h
    (ss_retD (sd_sv (sv_call arr_id (sa_cons (sd_fld (h_own_steps T) sd_var) sa_nil) sa_nil)))⟩
theorem p_Machine_letters {X : Cx} {j : Nat} {e : Expr} {to : TE} {pos : Pos} {K : PySem.W.Frag} {mg : PySem.Str → Option Value} (T : Tx K mg) (hr : RoomG j X.A) (he : PE X e to) (hj : 3 ≤ j := by decide) (hX : AtX X K mg := by exact ⟨rfl, rfl⟩) (hab : attributeBase e "letters" X.env (eval e X.env) = eval e X.env := by rfl) : PE X (.Attribute e "letters" pos) (tPropG (cM K) (SpF K (F_Machine_letters (cK K))) E0 to) := by
  obtain ⟨rfl, rfl⟩ := hX
  obtain ⟨fd, F⟩ := T.c.def_ 14 (d := d_Machine_letters) rfl
  exact pe_propG he T.Machine_cl (propB_ok (T.ex1.pr "letters" (by decide))) (f_Machine_letters T F) (hr.le hj) (kb_plain F 1 [] (fun us _ => us) (fun a _ => a) fun _ _ _ _ _ _ us ws h1 h2 => match us, h1, ws, h2 with | [_], _, [], _ => rfl) (fun _ => rfl) pass0 hab
theorem f_Machine_steps {P : Program} {w : World} {K : PySem.W.Frag} {mg : PySem.Str → Option Value} {base : Heap} (T : Tx K mg) {fd : FuncData} (F : FunD K d_Machine_steps.name d_Machine_steps.qual d_Machine_steps.params d_Machine_steps.body d_Machine_steps.scope (d_Machine_steps.dvs K) (d_Machine_steps.kws K) (d_Machine_steps.at_ K) fd) : FnG P w K mg base CX0 1 (d_Machine_steps.at_ K) fd ["self"] (SpF K (F_Machine_steps (cK K))) := by
  have nd := sc_Machine_steps.nd
  exact fn_g F sc_Machine_steps SpF.len fun cdv A fr s H vs Q E hr h => ⟨_, PSs.nox (pss_one (ps_ret (pe_callTy (x_lst T) rfl (T.f_ "list") PyProof.Rows.boot_list (pa_cons (x_fld T (pv 0) rfl) pa_nil)))), SpF.body (N := N_Machine_steps) (ar := 1) h
    (ss_retD (sd_fz (so_cb cn_list (sa_cons (sd_fld (h_own_steps T) sd_var) sa_nil))))⟩
theorem k_Machine_steps {X : Cx} {K : PySem.W.Frag} {mg : PySem.Str → Option Value} {j : Nat} (T : Tx K mg) (hr : RoomG j X.A) (hj : 1 ≤ j := by decide) (hX : AtX X K mg := by exact ⟨rfl, rfl⟩) : CanG X (.ref (He.ma K (He.ga K "Machine") "steps")) [] (rFn 1 0 (SpF K (F_Machine_steps (cK K))) idv E0) := by
  obtain ⟨rfl, rfl⟩ := hX
  obtain ⟨fd, F⟩ := T.c.def_ 15 (d := d_Machine_steps) rfl
  exact can_fn (f_Machine_steps T F) (hr.le hj) (kb_plain F 1 [] (fun us _ => us) (fun a _ => a) fun _ _ _ _ _ _ us ws h1 h2 => match us, h1, ws, h2 with | [_], _, [], _ => rfl) pass0
theorem f_Machine_begins {P : Program} {w : World} {K : PySem.W.Frag} {mg : PySem.Str → Option Value} {base : Heap} (T : Tx K mg) {fd : FuncData} (F : FunD K d_Machine_begins.name d_Machine_begins.qual d_Machine_begins.params d_Machine_begins.body d_Machine_begins.scope (d_Machine_begins.dvs K) (d_Machine_begins.kws K) (d_Machine_begins.at_ K) fd) : FnG P w K mg base CX0 1 (d_Machine_begins.at_ K) fd ["self"] (SpF K (F_Machine_begins (cK K))) := by
  have nd := sc_Machine_begins.nd
  exact fn_g F sc_Machine_begins SpF.len fun cdv A fr s H vs Q E hr h => ⟨_, PSs.nox (pss_one (ps_ret (pe_callTy (x_lst T) rfl (T.f_ "list") PyProof.Rows.boot_list (pa_cons (x_fld T (pv 0) rfl) pa_nil)))), SpF.body (N := N_Machine_begins) (ar := 1) h
    (ss_retD (sd_fz (so_cb cn_list (sa_cons (sd_fld (h_own_begins T) sd_var) sa_nil))))⟩
theorem k_Machine_begins {X : Cx} {K : PySem.W.Frag} {mg : PySem.Str → Option Value} {j : Nat} (T : Tx K mg) (hr : RoomG j X.A) (hj : 1 ≤ j := by decide) (hX : AtX X K mg := by exact ⟨rfl, rfl⟩) : CanG X (.ref (He.ma K (He.ga K "Machine") "begins")) [] (rFn 1 0 (SpF K (F_Machine_begins (cK K))) idv E0) := by
  obtain ⟨rfl, rfl⟩ := hX
  obtain ⟨fd, F⟩ := T.c.def_ 16 (d := d_Machine_begins) rfl
  exact can_fn (f_Machine_begins T F) (hr.le hj) (kb_plain F 1 [] (fun us _ => us) (fun a _ => a) fun _ _ _ _ _ _ us ws h1 h2 => match us, h1, ws, h2 with | [_], _, [], _ => rfl) pass0
theorem f_Machine___repr__ {P : Program} {w : World} {K : PySem.W.Frag} {mg : PySem.Str → Option Value} {base : Heap} (T : Tx K mg) {fd : FuncData} (F : FunD K d_Machine___repr__.name d_Machine___repr__.qual d_Machine___repr__.params d_Machine___repr__.body d_Machine___repr__.scope (d_Machine___repr__.dvs K) (d_Machine___repr__.kws K) (d_Machine___repr__.at_ K) fd) : FnG P w K mg base CX0 1 (d_Machine___repr__.at_ K) fd ["self"] (SpF K (F_Machine___repr__ (cK K))) := by
  have nd := sc_Machine___repr__.nd
  exact fn_g F sc_Machine___repr__ SpF.len fun cdv A fr s H vs Q E hr h => ⟨_, PSs.nox (pss_one (ps_ret (pe_joined (PJ.cons pe_str (PJ.cons (pe_fmt (x_fld T (pv 0) rfl)) (PJ.cons pe_str (PJ.cons (x_fmtR (j := 0) T hr (x_fld T (pv 0) rfl)) (PJ.cons pe_str (PJ.cons (x_fmtR (j := 0) T hr (x_fld T (pv 0) rfl)) (PJ.cons pe_str PJ.nil)))))))))), SpF.body (N := N_Machine___repr__) (ar := 1) h
    (ss_retD (sd_joined (sj_cons sd_str (sj_cons (sd_fmt (sd_fld (h_own_places T) sd_var)) (sj_cons sd_str (sj_cons (sd_fmtR (sd_fld (h_own_steps T) sd_var)) (sj_cons sd_str (sj_cons (sd_fmtR (sd_fld (h_own_begins T) sd_var)) (sj_cons sd_str sj_nil)))))))))⟩
theorem k_Machine___repr__ {X : Cx} {K : PySem.W.Frag} {mg : PySem.Str → Option Value} {j : Nat} (T : Tx K mg) (hr : RoomG j X.A) (hj : 1 ≤ j := by decide) (hX : AtX X K mg := by exact ⟨rfl, rfl⟩) : CanG X (.ref (He.ma K (He.ga K "Machine") "__repr__")) [] (rFn 1 0 (SpF K (F_Machine___repr__ (cK K))) idv E0) := by
  obtain ⟨rfl, rfl⟩ := hX
  obtain ⟨fd, F⟩ := T.c.def_ 17 (d := d_Machine___repr__) rfl
  exact can_fn (f_Machine___repr__ T F) (hr.le hj) (kb_plain F 1 [] (fun us _ => us) (fun a _ => a) fun _ _ _ _ _ _ us ws h1 h2 => match us, h1, ws, h2 with | [_], _, [], _ => rfl) pass0
def rReprU (K : PySem.W.Frag) : List V → Hp → VK → Prop := fun xs H Q => rOwnS (cM K) (rFn 1 0 (SpF K (F_Machine___repr__ (cK K))) idv E0) xs H Q ∨ rReprD K xs H Q
theorem u_repr {X : Cx} {K : PySem.W.Frag} {mg : PySem.Str → Option Value} {j : Nat} (T : Tx K mg) (hr : RoomG j X.A) (hj : 2 ≤ j := by decide) (hX : AtX X K mg := by exact ⟨rfl, rfl⟩) : CallR X (.builtin "repr") (rReprU K) := by
  obtain ⟨rfl, rfl⟩ := hX
  obtain ⟨fd, F⟩ := T.c.def_ 17 (d := d_Machine___repr__) rfl
  exact CallR.or' (call_reprOwn (f_Machine___repr__ T F) (hr.le hj) (kb_plain F 1 [] (fun us _ => us) (fun a _ => a) fun _ _ _ _ _ _ us ws h1 h2 => match us, h1, ws, h2 with | [_], _, [], _ => rfl) pass0 (OwnM.of (T.m_Machine "__repr__"))) (call_reprD hr)
theorem cs_reprU {K : PySem.W.Frag} : CbS K (rReprU K) (aReprU (cK K)) := CbS.or cs_ownS cs_repr
theorem f_want_heard {P : Program} {w : World} {K : PySem.W.Frag} {mg : PySem.Str → Option Value} {base : Heap} (T : Tx K mg) {fd : FuncData} (F : FunD K d_want_heard.name d_want_heard.qual d_want_heard.params d_want_heard.body d_want_heard.scope (d_want_heard.dvs K) (d_want_heard.kws K) (d_want_heard.at_ K) fd) : FnG P w K mg base CX0 4 (d_want_heard.at_ K) fd ["machine", "heard"] (SpF K (F_want_heard (cK K))) := by
  have nd := sc_want_heard.nd
  exact fn_g F sc_want_heard SpF.len fun cdv A fr s H vs Q E hr h => ⟨_, PSs.nox (pss_one (ps_if (PW.pt (pw_or (pt_not (pt_val (pe_g (ks := []) rfl (T.g_ "is_heard") (T.k_ "is_heard") (k_is_heard (j := 3) T hr) (pa_cons (pv 1) pa_nil) pk_nil))) (pw_or1 (pt_not (pt_val (pe_callB (x_all T rfl) rfl (T.f_ "all") PyProof.Rows.boot_all (pa_cons (pe_lc (own := [("letter", 2)]) (g := gName 2) (tt := tYes) rfl nd (x_walk T (pv 1)) (blkOk_by (N := N_want_heard) (sc := defScope s_want_heard) (by decide +kernel)) (fun _ _ _ _ _ => pg_name (i := 2) nd rfl (Or.inl rfl)) (fun _ _ _ _ _ => pts_nil) (fun _ _ _ _ _ => (pe_cmpR (x_in (j := 3) T hr) (pv 2) (p_Machine_letters (j := 3) T hr (pv 0)) (by rfl)))) pa_nil))))))) (pss_one ps_never) pss_nil)), SpF.body (N := N_want_heard) (ar := 2) h
    (ss_if (st_or (st_not (st_B (sd_sv (sv_call arr_id (sa_cons sd_var sa_nil) sa_nil)))) (st_not (st_B (sd_cb cs_all (sa_cons (sd_fz (so_lc (si_wk sd_var) sg_name st_yes (sd_op os_in sd_var (sd_sv (sv_prop sd_var))) (by decide))) sa_nil))))) ss_never ss_next)⟩
theorem k_want_heard {X : Cx} {K : PySem.W.Frag} {mg : PySem.Str → Option Value} {j : Nat} (T : Tx K mg) (hr : RoomG j X.A) (hj : 4 ≤ j := by decide) (hX : AtX X K mg := by exact ⟨rfl, rfl⟩) : CanG X (.ref (He.ga K "want_heard")) [] (rFn 2 0 (SpF K (F_want_heard (cK K))) idv E0) := by
  obtain ⟨rfl, rfl⟩ := hX
  obtain ⟨fd, F⟩ := T.c.def_ 18 (d := d_want_heard) rfl
  exact can_fn (f_want_heard T F) (hr.le hj) (kb_plain F 2 [] (fun us _ => us) (fun a _ => a) fun _ _ _ _ _ _ us ws h1 h2 => match us, h1, ws, h2 with | [_, _], _, [], _ => rfl) pass0
theorem f_want_place {P : Program} {w : World} {K : PySem.W.Frag} {mg : PySem.Str → Option Value} {base : Heap} (T : Tx K mg) {fd : FuncData} (F : FunD K d_want_place.name d_want_place.qual d_want_place.params d_want_place.body d_want_place.scope (d_want_place.dvs K) (d_want_place.kws K) (d_want_place.at_ K) fd) : FnG P w K mg base CX0 3 (d_want_place.at_ K) fd ["machine", "place"] (SpF K (F_want_place (cK K))) := by
  have nd := sc_want_place.nd
  exact fn_g F sc_want_place SpF.len fun cdv A fr s H vs Q E hr h => ⟨_, PSs.nox (pss_one (ps_if (pt_not (pt_val (pe_g (ks := []) rfl (T.g_ "is_place") (T.k_ "is_place") (k_is_place (j := 2) T hr) (pa_cons (pv 1) (pa_cons (p_Machine_places (j := 2) T hr (pv 0)) pa_nil)) pk_nil))) (pss_one ps_never) pss_nil)), SpF.body (N := N_want_place) (ar := 2) h
    (ss_if (st_not (st_B (sd_sv (sv_call arr_id (sa_cons sd_var (sa_cons (sd_sv (sv_prop sd_var)) sa_nil)) sa_nil)))) ss_never ss_next)⟩
theorem k_want_place {X : Cx} {K : PySem.W.Frag} {mg : PySem.Str → Option Value} {j : Nat} (T : Tx K mg) (hr : RoomG j X.A) (hj : 3 ≤ j := by decide) (hX : AtX X K mg := by exact ⟨rfl, rfl⟩) : CanG X (.ref (He.ga K "want_place")) [] (rFn 2 0 (SpF K (F_want_place (cK K))) idv E0) := by
  obtain ⟨rfl, rfl⟩ := hX
  obtain ⟨fd, F⟩ := T.c.def_ 19 (d := d_want_place) rfl
  exact can_fn (f_want_place T F) (hr.le hj) (kb_plain F 2 [] (fun us _ => us) (fun a _ => a) fun _ _ _ _ _ _ us ws h1 h2 => match us, h1, ws, h2 with | [_, _], _, [], _ => rfl) pass0
theorem f_closed {P : Program} {w : World} {K : PySem.W.Frag} {mg : PySem.Str → Option Value} {base : Heap} (T : Tx K mg) {fd : FuncData} (F : FunD K d_closed.name d_closed.qual d_closed.params d_closed.body d_closed.scope (d_closed.dvs K) (d_closed.kws K) (d_closed.at_ K) fd) : FnG P w K mg base CX0 2 (d_closed.at_ K) fd ["machine", "heard", "places"] (SpF K (F_closed (cK K))) := by
  have nd := sc_closed.nd
  exact fn_g F sc_closed SpF.len fun cdv A fr s H vs Q E hr h => ⟨_, PSs.nox (pss_cons (ps_par3 (i := 3) (j := 4) (l := 5) rfl nd rfl rfl rfl (by decide) (by decide) (by decide) rfl rfl rfl (pa_cons (pe_callTy (x_lst T) rfl (T.f_ "list") PyProof.Rows.boot_list (pa_cons (pv 2) pa_nil)) (pa_cons (pe_callTy (x_lst T) rfl (T.f_ "list") PyProof.Rows.boot_list (pa_cons (pv 2) pa_nil)) (pa_cons (pe_gm0 (ks := []) (pv 0) T.Machine_cl (T.m_Machine "steps") (k_Machine_steps (j := 1) T hr) pk_nil) pa_nil))) rfl)
      (pss_cons (ps_while PassesOwn.never (pt_cmpR (x_ne (j := 1) T hr) (pv 4) (pe_lst pa_nil) (nomark _)) (pss_cons (ps_set (i := 6) nd rfl (Or.inl rfl) (pe_bm0 PySem.F.plainAttrs_list PySem.F.slot_list_pop PySem.F.type_list_pop mt_pop (pv 4)))
      (pss_one (ps_for PassesOwn.never rfl (x_walk T (pv 5)) (x_gtup T (n := 3) (pgs_cons (pg_name (i := 7) nd rfl (Or.inl rfl)) (pgs_cons (pg_name (i := 8) nd rfl (Or.inl rfl)) (pgs_cons (pg_name (i := 9) nd rfl (Or.inl rfl)) pgs_nil)))) (pss_one (ps_if (PW.pt (pw_and (pt_cmpR (x_eq (j := 1) T hr) (pv 7) (pv 6) (nomark _)) (pw_and (pt_cmpR (x_notIn (j := 1) T hr) (pv 9) (pv 3) (by rfl)) (pw_and1 (PW.pt (pw_or (pt_cmpR (x_eq (j := 1) T hr) (pv 8) pe_str (nomark _)) (pw_or1 (pt_cmpR (x_notIn (j := 1) T hr) (pv 8) (pv 1) (by rfl))))))))) (pss_cons (ps_expr (pe_bm PySem.F.plainAttrs_list PySem.F.slot_list_append PySem.F.type_list_append mt_append (pv 3) (pa_cons (pv 9) pa_nil)))
      (pss_one (ps_expr (pe_bm PySem.F.plainAttrs_list PySem.F.slot_list_append PySem.F.type_list_append mt_append (pv 4) (pa_cons (pv 9) pa_nil))))) pss_nil))))))
      (pss_one (ps_ret (pe_callTy (x_tup T) rfl (T.f_ "tuple") PyProof.Rows.boot_tuple (pa_cons (pe_callB (x_sort (j := 1) T hr) rfl (T.f_ "sorted") PyProof.Rows.boot_sorted (pa_cons (pv 3) pa_nil)) pa_nil)))))), SpF.body (N := N_closed) (ar := 3) h
    (ss_seq (ss_par3 (sv_so (so_cb cn_list (sa_cons sd_var sa_nil))) (sv_so (so_cb cn_list (sa_cons sd_var sa_nil))) (sv_sd (sd_sv (sv_meth arr_id sd_var sa_nil sa_nil))))
      (ss_seq (ss_while (st_lo (st_test (sd_op os_ne sd_var (sd_fz (so_lst sa_nil))))) (ss_seq (ss_asg sd_pop sg_name)
      (ss_for (si_wk sd_var) (sg_tup (sg_cons sg_name (sg_cons sg_name (sg_cons sg_name sg_nil)))) (ss_if (st_lo (st_and (st_test (sd_op os_eq sd_var sd_var)) (st_and (st_test (sd_op os_notIn sd_var sd_var)) (st_or (st_test (sd_op os_eq sd_var sd_str)) (st_test (sd_op os_notIn sd_var sd_var)))))) (ss_seq (ss_drop (sd_app sd_var))
      (ss_drop (sd_app sd_var))) ss_next))))
      (ss_retD (sd_cb cs_tuple (sa_cons (sd_fz (so_cb cn_sorted (sa_cons sd_var sa_nil))) sa_nil)))))⟩
theorem k_closed {X : Cx} {K : PySem.W.Frag} {mg : PySem.Str → Option Value} {j : Nat} (T : Tx K mg) (hr : RoomG j X.A) (hj : 2 ≤ j := by decide) (hX : AtX X K mg := by exact ⟨rfl, rfl⟩) : CanG X (.ref (He.ga K "closed")) [] (rFn 3 0 (SpF K (F_closed (cK K))) idv E0) := by
  obtain ⟨rfl, rfl⟩ := hX
  obtain ⟨fd, F⟩ := T.c.def_ 20 (d := d_closed) rfl
  exact can_fn (f_closed T F) (hr.le hj) (kb_plain F 3 [] (fun us _ => us) (fun a _ => a) fun _ _ _ _ _ _ us ws h1 h2 => match us, h1, ws, h2 with | [_, _, _], _, [], _ => rfl) pass0
theorem f_chart_after {P : Program} {w : World} {K : PySem.W.Frag} {mg : PySem.Str → Option Value} {base : Heap} (T : Tx K mg) {fd : FuncData} (F : FunD K d_chart_after.name d_chart_after.qual d_chart_after.params d_chart_after.body d_chart_after.scope (d_chart_after.dvs K) (d_chart_after.kws K) (d_chart_after.at_ K) fd) : FnG P w K mg base CX0 3 (d_chart_after.at_ K) fd ["machine", "heard", "chart", "letter"] (SpF K (F_chart_after (cK K))) := by
  have nd := sc_chart_after.nd
  exact fn_g F sc_chart_after SpF.len fun cdv A fr s H vs Q E hr h => ⟨_, PSs.nox (pss_cons (ps_set (i := 4) nd rfl (Or.inl rfl) (x_sset (j := 2) T hr (pe_lc (own := [("near", 5), ("said", 6), ("far", 7)]) (g := gTup K 3 (gCons (gName 5) (gCons (gName 6) (gCons (gName 7) gNil)))) rfl nd (x_walk T (pe_gm0 (ks := []) (pv 0) T.Machine_cl (T.m_Machine "steps") (k_Machine_steps (j := 2) T hr) pk_nil)) (blkOk_by (N := N_chart_after) (sc := defScope s_chart_after) (by decide +kernel)) (fun _ _ _ _ _ => x_gtup T (n := 3) (pgs_cons (pg_name (i := 5) nd rfl (Or.inl rfl)) (pgs_cons (pg_name (i := 6) nd rfl (Or.inl rfl)) (pgs_cons (pg_name (i := 7) nd rfl (Or.inl rfl)) pgs_nil)))) (fun _ _ _ _ _ => (pts_one (PW.pt (pw_and (pt_cmpR (x_in (j := 2) T hr) (pv 5) (pv 2) (by rfl)) (pw_and1 (pt_cmpR (x_eq (j := 2) T hr) (pv 6) (pv 3) (nomark _))))))) (fun _ _ _ _ _ => (pv 7)))))
      (pss_one (ps_ret (pe_g (ks := []) rfl (T.g_ "closed") (T.k_ "closed") (k_closed (j := 2) T hr) (pa_cons (pv 0) (pa_cons (pv 1) (pa_cons (pv 4) pa_nil))) pk_nil)))), SpF.body (N := N_chart_after) (ar := 4) h
    (ss_seq (ss_asg (sd_fz (so_sset (sd_fz (so_lc (si_wk (sd_sv (sv_meth arr_id sd_var sa_nil sa_nil))) (sg_tup (sg_cons sg_name (sg_cons sg_name (sg_cons sg_name sg_nil)))) (st_and (st_test (sd_op os_in sd_var sd_var)) (st_test (sd_op os_eq sd_var sd_var))) sd_var (by decide))))) sg_name)
      (ss_retD (sd_sv (sv_call arr_id (sa_cons sd_var (sa_cons sd_var (sa_cons sd_var sa_nil))) sa_nil))))⟩
theorem k_chart_after {X : Cx} {K : PySem.W.Frag} {mg : PySem.Str → Option Value} {j : Nat} (T : Tx K mg) (hr : RoomG j X.A) (hj : 3 ≤ j := by decide) (hX : AtX X K mg := by exact ⟨rfl, rfl⟩) : CanG X (.ref (He.ga K "chart_after")) [] (rFn 4 0 (SpF K (F_chart_after (cK K))) idv E0) := by
  obtain ⟨rfl, rfl⟩ := hX
  obtain ⟨fd, F⟩ := T.c.def_ 21 (d := d_chart_after) rfl
  exact can_fn (f_chart_after T F) (hr.le hj) (kb_plain F 4 [] (fun us _ => us) (fun a _ => a) fun _ _ _ _ _ _ us ws h1 h2 => match us, h1, ws, h2 with | [_, _, _, _], _, [], _ => rfl) pass0
theorem f_letters_next {P : Program} {w : World} {K : PySem.W.Frag} {mg : PySem.Str → Option Value} {base : Heap} (T : Tx K mg) {fd : FuncData} (F : FunD K d_letters_next.name d_letters_next.qual d_letters_next.params d_letters_next.body d_letters_next.scope (d_letters_next.dvs K) (d_letters_next.kws K) (d_letters_next.at_ K) fd) : FnG P w K mg base CX0 2 (d_letters_next.at_ K) fd ["machine", "heard", "chart"] (SpF K (F_letters_next (cK K))) := by
  have nd := sc_letters_next.nd
  exact fn_g F sc_letters_next SpF.len fun cdv A fr s H vs Q E hr h => ⟨_, PSs.nox (pss_cons (ps_set (i := 3) nd rfl (Or.inr rfl) (pe_lc (own := [("near", 4), ("letter", 5), ("far", 6)]) (g := gTup K 3 (gCons (gName 4) (gCons (gName 5) (gCons (gName 6) gNil)))) rfl nd (x_walk T (pe_gm0 (ks := []) (pv 0) T.Machine_cl (T.m_Machine "steps") (k_Machine_steps (j := 1) T hr) pk_nil)) (blkOk_by (N := N_letters_next) (sc := defScope s_letters_next) (by decide +kernel)) (fun _ _ _ _ _ => x_gtup T (n := 3) (pgs_cons (pg_name (i := 4) nd rfl (Or.inl rfl)) (pgs_cons (pg_name (i := 5) nd rfl (Or.inl rfl)) (pgs_cons (pg_name (i := 6) nd rfl (Or.inl rfl)) pgs_nil)))) (fun _ _ _ _ _ => (pts_one (PW.pt (pw_and (pt_cmpR (x_in (j := 1) T hr) (pv 4) (pv 2) (by rfl)) (pw_and1 (pt_cmpR (x_ne (j := 1) T hr) (pv 5) pe_str (nomark _))))))) (fun _ _ _ _ _ => (pv 5))))
      (pss_one (ps_ret (x_join T pe_str (pe_lc (own := [("letter", 5)]) (g := gName 5) rfl nd (x_walk T (pv 1)) (blkOk_by (N := N_letters_next) (sc := defScope s_letters_next) (by decide +kernel)) (fun _ _ _ _ _ => pg_name (i := 5) nd rfl (Or.inl rfl)) (fun _ _ _ _ _ => (pts_one (pt_cmpR (x_in (j := 1) T hr) (pv 5) (pv 3) (by rfl)))) (fun _ _ _ _ _ => (pv 5))))))), SpF.body (N := N_letters_next) (ar := 3) h
    (ss_seq (ss_asg (sd_fz (so_lc (si_wk (sd_sv (sv_meth arr_id sd_var sa_nil sa_nil))) (sg_tup (sg_cons sg_name (sg_cons sg_name (sg_cons sg_name sg_nil)))) (st_and (st_test (sd_op os_in sd_var sd_var)) (st_test (sd_op os_ne sd_var sd_str))) sd_var (by decide))) sg_name)
      (ss_retD (sd_join sd_str (sd_fz (so_lc (si_wk sd_var) sg_name (st_test (sd_op os_in sd_var sd_var)) sd_var (by decide))))))⟩
theorem k_letters_next {X : Cx} {K : PySem.W.Frag} {mg : PySem.Str → Option Value} {j : Nat} (T : Tx K mg) (hr : RoomG j X.A) (hj : 2 ≤ j := by decide) (hX : AtX X K mg := by exact ⟨rfl, rfl⟩) : CanG X (.ref (He.ga K "letters_next")) [] (rFn 3 0 (SpF K (F_letters_next (cK K))) idv E0) := by
  obtain ⟨rfl, rfl⟩ := hX
  obtain ⟨fd, F⟩ := T.c.def_ 22 (d := d_letters_next) rfl
  exact can_fn (f_letters_next T F) (hr.le hj) (kb_plain F 3 [] (fun us _ => us) (fun a _ => a) fun _ _ _ _ _ _ us ws h1 h2 => match us, h1, ws, h2 with | [_, _, _], _, [], _ => rfl) pass0
theorem f_is_tuple_of_places {P : Program} {w : World} {K : PySem.W.Frag} {mg : PySem.Str → Option Value} {base : Heap} (T : Tx K mg) {fd : FuncData} (F : FunD K d_is_tuple_of_places.name d_is_tuple_of_places.qual d_is_tuple_of_places.params d_is_tuple_of_places.body d_is_tuple_of_places.scope (d_is_tuple_of_places.dvs K) (d_is_tuple_of_places.kws K) (d_is_tuple_of_places.at_ K) fd) : FnG P w K mg base CX0 3 (d_is_tuple_of_places.at_ K) fd ["value", "places"] (SpF K (F_is_tuple_of_places (cK K))) := by
  have nd := sc_is_tuple_of_places.nd
  exact fn_g F sc_is_tuple_of_places SpF.len fun cdv A fr s H vs Q E hr h => ⟨_, PSs.nox (pss_cons (ps_if (PW.pt (pw_or (pt_not (pt_val (pe_callB (x_isi T) rfl (T.f_ "isinstance") PyProof.Rows.boot_isinstance (pa_cons (pv 0) (pa_cons (pe_bltn (v := .ty "tuple") rfl (T.f_ "tuple") PyProof.Rows.boot_tuple rfl) pa_nil))))) (pw_or (pt_cmpR (x_eq (j := 2) T hr) (pe_callB (x_len T) rfl (T.f_ "len") PySem.boot_len (pa_cons (pv 0) pa_nil)) pe_int (nomark _)) (pw_or1 (pt_not (pt_val (pe_callB (x_all T rfl) rfl (T.f_ "all") PyProof.Rows.boot_all (pa_cons (pe_lc (own := [("place", 2)]) (g := gName 2) (tt := tYes) rfl nd (x_walk T (pv 0)) (blkOk_by (N := N_is_tuple_of_places) (sc := defScope s_is_tuple_of_places) (by decide +kernel)) (fun _ _ _ _ _ => pg_name (i := 2) nd rfl (Or.inl rfl)) (fun _ _ _ _ _ => pts_nil) (fun _ _ _ _ _ => (pe_g (ks := []) rfl (T.g_ "is_place") (T.k_ "is_place") (k_is_place (j := 2) T hr) (pa_cons (pv 2) (pa_cons (pv 1) pa_nil)) pk_nil))) pa_nil)))))))) (pss_one (ps_ret pe_bl)) pss_nil)
      (pss_one (ps_ret (pe_callB (x_all T rfl) rfl (T.f_ "all") PyProof.Rows.boot_all (pa_cons (pe_lc (own := [("near", 3), ("far", 4)]) (g := gTup K 2 (gCons (gName 3) (gCons (gName 4) gNil))) (tt := tYes) rfl nd (x_zip T (pa_cons (pv 0) (pa_cons (pe_slice (x_sl T) (pv 0) (po_some pe_int) po_none) pa_nil))) (blkOk_by (N := N_is_tuple_of_places) (sc := defScope s_is_tuple_of_places) (by decide +kernel)) (fun _ _ _ _ _ => x_gtup T (n := 2) (pgs_cons (pg_name (i := 3) nd rfl (Or.inl rfl)) (pgs_cons (pg_name (i := 4) nd rfl (Or.inl rfl)) pgs_nil))) (fun _ _ _ _ _ => pts_nil) (fun _ _ _ _ _ => (pe_cmpR o_ltA (pv 3) (pv 4) (nomark _)))) pa_nil))))), SpF.body (N := N_is_tuple_of_places) (ar := 2) h
    (ss_seq (ss_if (st_or (st_not (st_B (sd_cb cs_isi (sa_cons sd_var (sa_cons sd_ty sa_nil))))) (st_or (st_test (sd_op os_eq (sd_cb cs_len (sa_cons sd_var sa_nil)) sd_int)) (st_not (st_B (sd_cb cs_all (sa_cons (sd_fz (so_lc (si_wk sd_var) sg_name st_yes (sd_sv (sv_call arr_id (sa_cons sd_var (sa_cons sd_var sa_nil)) sa_nil)) (by decide))) sa_nil)))))) (ss_retD sd_bl) ss_next)
      (ss_retD (sd_cb cs_all (sa_cons (sd_fz (so_lc (si_zip (sa_cons sd_var (sa_cons (sd_sl sd_var (oi_some sd_int) oi_none) sa_nil))) (sg_tup (sg_cons sg_name (sg_cons sg_name sg_nil))) st_yes (sd_op os_lt sd_var sd_var) (by decide))) sa_nil))))⟩
theorem k_is_tuple_of_places {X : Cx} {K : PySem.W.Frag} {mg : PySem.Str → Option Value} {j : Nat} (T : Tx K mg) (hr : RoomG j X.A) (hj : 3 ≤ j := by decide) (hX : AtX X K mg := by exact ⟨rfl, rfl⟩) : CanG X (.ref (He.ga K "is_tuple_of_places")) [] (rFn 2 0 (SpF K (F_is_tuple_of_places (cK K))) idv E0) := by
  obtain ⟨rfl, rfl⟩ := hX
  obtain ⟨fd, F⟩ := T.c.def_ 23 (d := d_is_tuple_of_places) rfl
  exact can_fn (f_is_tuple_of_places T F) (hr.le hj) (kb_plain F 2 [] (fun us _ => us) (fun a _ => a) fun _ _ _ _ _ _ us ws h1 h2 => match us, h1, ws, h2 with | [_, _], _, [], _ => rfl) pass0
theorem f_is_chart {P : Program} {w : World} {K : PySem.W.Frag} {mg : PySem.Str → Option Value} {base : Heap} (T : Tx K mg) {fd : FuncData} (F : FunD K d_is_chart.name d_is_chart.qual d_is_chart.params d_is_chart.body d_is_chart.scope (d_is_chart.dvs K) (d_is_chart.kws K) (d_is_chart.at_ K) fd) : FnG P w K mg base CX0 5 (d_is_chart.at_ K) fd ["machine", "heard", "value"] (SpF K (F_is_chart (cK K))) := by
  have nd := sc_is_chart.nd
  exact fn_g F sc_is_chart SpF.len fun cdv A fr s H vs Q E hr h => ⟨_, PSs.nox (pss_cons (ps_expr (pe_g (ks := []) rfl (T.g_ "want_heard") (T.k_ "want_heard") (k_want_heard (j := 4) T hr) (pa_cons (pv 0) (pa_cons (pv 1) pa_nil)) pk_nil))
      (pss_one (ps_ret (pe_and (pe_g (ks := []) rfl (T.g_ "is_tuple_of_places") (T.k_ "is_tuple_of_places") (k_is_tuple_of_places (j := 4) T hr) (pa_cons (pv 2) (pa_cons (p_Machine_places (j := 4) T hr (pv 0)) pa_nil)) pk_nil) (pe_one (pe_cmpR (x_eq (j := 4) T hr) (pe_g (ks := []) rfl (T.g_ "closed") (T.k_ "closed") (k_closed (j := 4) T hr) (pa_cons (pv 0) (pa_cons (pv 1) (pa_cons (pv 2) pa_nil))) pk_nil) (pv 2) (nomark _))))))), SpF.body (N := N_is_chart) (ar := 3) h
    (ss_seq (ss_drop (sd_sv (sv_call arr_id (sa_cons sd_var (sa_cons sd_var sa_nil)) sa_nil)))
      (ss_retD (sd_andV (sd_sv (sv_call arr_id (sa_cons sd_var (sa_cons (sd_sv (sv_prop sd_var)) sa_nil)) sa_nil)) (sd_op os_eq (sd_sv (sv_call arr_id (sa_cons sd_var (sa_cons sd_var (sa_cons sd_var sa_nil))) sa_nil)) sd_var))))⟩
theorem k_is_chart {X : Cx} {K : PySem.W.Frag} {mg : PySem.Str → Option Value} {j : Nat} (T : Tx K mg) (hr : RoomG j X.A) (hj : 5 ≤ j := by decide) (hX : AtX X K mg := by exact ⟨rfl, rfl⟩) : CanG X (.ref (He.ga K "is_chart")) [] (rFn 3 0 (SpF K (F_is_chart (cK K))) idv E0) := by
  obtain ⟨rfl, rfl⟩ := hX
  obtain ⟨fd, F⟩ := T.c.def_ 24 (d := d_is_chart) rfl
  exact can_fn (f_is_chart T F) (hr.le hj) (kb_plain F 3 [] (fun us _ => us) (fun a _ => a) fun _ _ _ _ _ _ us ws h1 h2 => match us, h1, ws, h2 with | [_, _, _], _, [], _ => rfl) pass0
theorem f_want_chart {P : Program} {w : World} {K : PySem.W.Frag} {mg : PySem.Str → Option Value} {base : Heap} (T : Tx K mg) {fd : FuncData} (F : FunD K d_want_chart.name d_want_chart.qual d_want_chart.params d_want_chart.body d_want_chart.scope (d_want_chart.dvs K) (d_want_chart.kws K) (d_want_chart.at_ K) fd) : FnG P w K mg base CX0 6 (d_want_chart.at_ K) fd ["machine", "heard", "chart"] (SpF K (F_want_chart (cK K))) := by
  have nd := sc_want_chart.nd
  exact fn_g F sc_want_chart SpF.len fun cdv A fr s H vs Q E hr h => ⟨_, PSs.nox (pss_one (ps_if (pt_not (pt_val (pe_g (ks := []) rfl (T.g_ "is_chart") (T.k_ "is_chart") (k_is_chart (j := 5) T hr) (pa_cons (pv 0) (pa_cons (pv 1) (pa_cons (pv 2) pa_nil))) pk_nil))) (pss_one ps_never) pss_nil)), SpF.body (N := N_want_chart) (ar := 3) h
    (ss_if (st_not (st_B (sd_sv (sv_call arr_id (sa_cons sd_var (sa_cons sd_var (sa_cons sd_var sa_nil))) sa_nil)))) ss_never ss_next)⟩
theorem k_want_chart {X : Cx} {K : PySem.W.Frag} {mg : PySem.Str → Option Value} {j : Nat} (T : Tx K mg) (hr : RoomG j X.A) (hj : 6 ≤ j := by decide) (hX : AtX X K mg := by exact ⟨rfl, rfl⟩) : CanG X (.ref (He.ga K "want_chart")) [] (rFn 3 0 (SpF K (F_want_chart (cK K))) idv E0) := by
  obtain ⟨rfl, rfl⟩ := hX
  obtain ⟨fd, F⟩ := T.c.def_ 25 (d := d_want_chart) rfl
  exact can_fn (f_want_chart T F) (hr.le hj) (kb_plain F 3 [] (fun us _ => us) (fun a _ => a) fun _ _ _ _ _ _ us ws h1 h2 => match us, h1, ws, h2 with | [_, _, _], _, [], _ => rfl) pass0
theorem f_beginning {P : Program} {w : World} {K : PySem.W.Frag} {mg : PySem.Str → Option Value} {base : Heap} (T : Tx K mg) {fd : FuncData} (F : FunD K d_beginning.name d_beginning.qual d_beginning.params d_beginning.body d_beginning.scope (d_beginning.dvs K) (d_beginning.kws K) (d_beginning.at_ K) fd) : FnG P w K mg base CX0 3 (d_beginning.at_ K) fd ["machine", "heard"] (SpF K (F_beginning (cK K))) := by
  have nd := sc_beginning.nd
  exact fn_g F sc_beginning SpF.len fun cdv A fr s H vs Q E hr h => ⟨_, PSs.nox (pss_one (ps_ret (pe_g (ks := []) rfl (T.g_ "closed") (T.k_ "closed") (k_closed (j := 2) T hr) (pa_cons (pv 0) (pa_cons (pv 1) (pa_cons (pe_gm0 (ks := []) (pv 0) T.Machine_cl (T.m_Machine "begins") (k_Machine_begins (j := 2) T hr) pk_nil) pa_nil))) pk_nil))), SpF.body (N := N_beginning) (ar := 2) h
    (ss_retD (sd_sv (sv_call arr_id (sa_cons sd_var (sa_cons sd_var (sa_cons (sd_sv (sv_meth arr_id sd_var sa_nil sa_nil)) sa_nil))) sa_nil)))⟩
theorem k_beginning {X : Cx} {K : PySem.W.Frag} {mg : PySem.Str → Option Value} {j : Nat} (T : Tx K mg) (hr : RoomG j X.A) (hj : 3 ≤ j := by decide) (hX : AtX X K mg := by exact ⟨rfl, rfl⟩) : CanG X (.ref (He.ga K "beginning")) [] (rFn 2 0 (SpF K (F_beginning (cK K))) idv E0) := by
  obtain ⟨rfl, rfl⟩ := hX
  obtain ⟨fd, F⟩ := T.c.def_ 26 (d := d_beginning) rfl
  exact can_fn (f_beginning T F) (hr.le hj) (kb_plain F 2 [] (fun us _ => us) (fun a _ => a) fun _ _ _ _ _ _ us ws h1 h2 => match us, h1, ws, h2 with | [_, _], _, [], _ => rfl) pass0
theorem f_first_chart {P : Program} {w : World} {K : PySem.W.Frag} {mg : PySem.Str → Option Value} {base : Heap} (T : Tx K mg) {fd : FuncData} (F : FunD K d_first_chart.name d_first_chart.qual d_first_chart.params d_first_chart.body d_first_chart.scope (d_first_chart.dvs K) (d_first_chart.kws K) (d_first_chart.at_ K) fd) : FnG P w K mg base CX0 5 (d_first_chart.at_ K) fd ["machine", "heard"] (SpF K (F_first_chart (cK K))) := by
  have nd := sc_first_chart.nd
  exact fn_g F sc_first_chart SpF.len fun cdv A fr s H vs Q E hr h => ⟨_, PSs.nox (pss_cons (ps_expr (pe_g (ks := []) rfl (T.g_ "want_heard") (T.k_ "want_heard") (k_want_heard (j := 4) T hr) (pa_cons (pv 0) (pa_cons (pv 1) pa_nil)) pk_nil))
      (pss_one (ps_ret (pe_g (ks := []) rfl (T.g_ "beginning") (T.k_ "beginning") (k_beginning (j := 4) T hr) (pa_cons (pv 0) (pa_cons (pv 1) pa_nil)) pk_nil)))), SpF.body (N := N_first_chart) (ar := 2) h
    (ss_seq (ss_drop (sd_sv (sv_call arr_id (sa_cons sd_var (sa_cons sd_var sa_nil)) sa_nil)))
      (ss_retD (sd_sv (sv_call arr_id (sa_cons sd_var (sa_cons sd_var sa_nil)) sa_nil))))⟩
theorem k_first_chart {X : Cx} {K : PySem.W.Frag} {mg : PySem.Str → Option Value} {j : Nat} (T : Tx K mg) (hr : RoomG j X.A) (hj : 5 ≤ j := by decide) (hX : AtX X K mg := by exact ⟨rfl, rfl⟩) : CanG X (.ref (He.ga K "first_chart")) [] (rFn 2 0 (SpF K (F_first_chart (cK K))) idv E0) := by
  obtain ⟨rfl, rfl⟩ := hX
  obtain ⟨fd, F⟩ := T.c.def_ 27 (d := d_first_chart) rfl
  exact can_fn (f_first_chart T F) (hr.le hj) (kb_plain F 2 [] (fun us _ => us) (fun a _ => a) fun _ _ _ _ _ _ us ws h1 h2 => match us, h1, ws, h2 with | [_, _], _, [], _ => rfl) pass0
theorem k_first_chart_heard_machine {X : Cx} {K : PySem.W.Frag} {mg : PySem.Str → Option Value} {j : Nat} (T : Tx K mg) (hr : RoomG j X.A) (hj : 5 ≤ j := by decide) (hX : AtX X K mg := by exact ⟨rfl, rfl⟩) : CanG X (.ref (He.ga K "first_chart")) ["heard", "machine"] (rFn 0 2 (SpF K (F_first_chart (cK K))) (gP [1, 0]) E0) := by
  obtain ⟨rfl, rfl⟩ := hX
  obtain ⟨fd, F⟩ := T.c.def_ 27 (d := d_first_chart) rfl
  exact can_fn (f_first_chart T F) (hr.le hj) (kb_plain F 0 ["heard", "machine"] (gP [1, 0]) vals_gP fun _ _ _ _ _ _ us ws h1 h2 => match us, h1, ws, h2 with | [], _, [_, _], _ => rfl) pass0
end DV

set_option Elab.async false
set_option autoImplicit false
set_option linter.all false
set_option maxRecDepth 100000
set_option maxHeartbeats 4000000
namespace DV
open PySem PySem.Spec PyProof.Rows L2
theorem f_chart_then {P : Program} {w : World} {K : PySem.W.Frag} {mg : PySem.Str → Option Value} {base : Heap} (T : Tx K mg) {fd : FuncData} (F : FunD K d_chart_then.name d_chart_then.qual d_chart_then.params d_chart_then.body d_chart_then.scope (d_chart_then.dvs K) (d_chart_then.kws K) (d_chart_then.at_ K) fd) : FnG P w K mg base CX0 7 (d_chart_then.at_ K) fd ["machine", "heard", "chart", "letter"] (SpF K (F_chart_then (cK K))) := by
  have nd := sc_chart_then.nd
  exact fn_g F sc_chart_then SpF.len fun cdv A fr s H vs Q E hr h => ⟨_, PSs.nox (pss_cons (ps_expr (pe_g (ks := []) rfl (T.g_ "want_chart") (T.k_ "want_chart") (k_want_chart (j := 6) T hr) (pa_cons (pv 0) (pa_cons (pv 1) (pa_cons (pv 2) pa_nil))) pk_nil))
      (pss_cons (ps_expr (pe_g (ks := []) rfl (T.g_ "want_letter") (T.k_ "want_letter") (k_want_letter (j := 6) T hr) (pa_cons (pv 3) pa_nil) pk_nil))
      (pss_cons (ps_if (pt_cmpR (x_notIn (j := 6) T hr) (pv 3) (pe_g (ks := []) rfl (T.g_ "letters_next") (T.k_ "letters_next") (k_letters_next (j := 6) T hr) (pa_cons (pv 0) (pa_cons (pv 1) (pa_cons (pv 2) pa_nil))) pk_nil) (by rfl)) (pss_one (ps_ret pe_non)) pss_nil)
      (pss_one (ps_ret (pe_g (ks := []) rfl (T.g_ "chart_after") (T.k_ "chart_after") (k_chart_after (j := 6) T hr) (pa_cons (pv 0) (pa_cons (pv 1) (pa_cons (pv 2) (pa_cons (pv 3) pa_nil)))) pk_nil)))))), SpF.body (N := N_chart_then) (ar := 4) h
    (ss_seq (ss_drop (sd_sv (sv_call arr_id (sa_cons sd_var (sa_cons sd_var (sa_cons sd_var sa_nil))) sa_nil)))
      (ss_seq (ss_drop (sd_sv (sv_call arr_id (sa_cons sd_var sa_nil) sa_nil)))
      (ss_seq (ss_if (st_test (sd_op os_notIn sd_var (sd_sv (sv_call arr_id (sa_cons sd_var (sa_cons sd_var (sa_cons sd_var sa_nil))) sa_nil)))) (ss_retD sd_non) ss_next)
      (ss_retD (sd_sv (sv_call arr_id (sa_cons sd_var (sa_cons sd_var (sa_cons sd_var (sa_cons sd_var sa_nil)))) sa_nil))))))⟩
theorem k_chart_then {X : Cx} {K : PySem.W.Frag} {mg : PySem.Str → Option Value} {j : Nat} (T : Tx K mg) (hr : RoomG j X.A) (hj : 7 ≤ j := by decide) (hX : AtX X K mg := by exact ⟨rfl, rfl⟩) : CanG X (.ref (He.ga K "chart_then")) [] (rFn 4 0 (SpF K (F_chart_then (cK K))) idv E0) := by
  obtain ⟨rfl, rfl⟩ := hX
  obtain ⟨fd, F⟩ := T.c.def_ 28 (d := d_chart_then) rfl
  exact can_fn (f_chart_then T F) (hr.le hj) (kb_plain F 4 [] (fun us _ => us) (fun a _ => a) fun _ _ _ _ _ _ us ws h1 h2 => match us, h1, ws, h2 with | [_, _, _, _], _, [], _ => rfl) pass0
theorem k_chart_then_letter_chart_heard_machine {X : Cx} {K : PySem.W.Frag} {mg : PySem.Str → Option Value} {j : Nat} (T : Tx K mg) (hr : RoomG j X.A) (hj : 7 ≤ j := by decide) (hX : AtX X K mg := by exact ⟨rfl, rfl⟩) : CanG X (.ref (He.ga K "chart_then")) ["letter", "chart", "heard", "machine"] (rFn 0 4 (SpF K (F_chart_then (cK K))) (gP [3, 2, 1, 0]) E0) := by
  obtain ⟨rfl, rfl⟩ := hX
  obtain ⟨fd, F⟩ := T.c.def_ 28 (d := d_chart_then) rfl
  exact can_fn (f_chart_then T F) (hr.le hj) (kb_plain F 0 ["letter", "chart", "heard", "machine"] (gP [3, 2, 1, 0]) vals_gP fun _ _ _ _ _ _ us ws h1 h2 => match us, h1, ws, h2 with | [], _, [_, _, _, _], _ => rfl) pass0
theorem f_led_by {P : Program} {w : World} {K : PySem.W.Frag} {mg : PySem.Str → Option Value} {base : Heap} (T : Tx K mg) {fd : FuncData} (F : FunD K d_led_by.name d_led_by.qual d_led_by.params d_led_by.body d_led_by.scope (d_led_by.dvs K) (d_led_by.kws K) (d_led_by.at_ K) fd) : FnG P w K mg base CX0 4 (d_led_by.at_ K) fd ["machine", "heard", "chart", "word"] (SpF K (F_led_by (cK K))) := by
  have nd := sc_led_by.nd
  exact fn_g F sc_led_by SpF.len fun cdv A fr s H vs Q E hr h => ⟨_, PSs.nox (pss_cons (ps_set (i := 4) nd rfl (Or.inl rfl) (pv 2))
      (pss_cons (ps_for PassesOwn.never rfl (x_walk T (pv 3)) (pg_name (i := 5) nd rfl (Or.inl rfl)) (pss_cons (ps_if (pt_cmpR (x_notIn (j := 3) T hr) (pv 5) (pe_g (ks := []) rfl (T.g_ "letters_next") (T.k_ "letters_next") (k_letters_next (j := 3) T hr) (pa_cons (pv 0) (pa_cons (pv 1) (pa_cons (pv 4) pa_nil))) pk_nil) (by rfl)) (pss_one (ps_ret pe_non)) pss_nil)
      (pss_one (ps_set (i := 4) nd rfl (Or.inl rfl) (pe_g (ks := []) rfl (T.g_ "chart_after") (T.k_ "chart_after") (k_chart_after (j := 3) T hr) (pa_cons (pv 0) (pa_cons (pv 1) (pa_cons (pv 4) (pa_cons (pv 5) pa_nil)))) pk_nil)))))
      (pss_one (ps_ret (pv 4))))), SpF.body (N := N_led_by) (ar := 4) h
    (ss_seq (ss_asg sd_var sg_name)
      (ss_seq (ss_for (si_wk sd_var) sg_name (ss_seq (ss_if (st_test (sd_op os_notIn sd_var (sd_sv (sv_call arr_id (sa_cons sd_var (sa_cons sd_var (sa_cons sd_var sa_nil))) sa_nil)))) (ss_retD sd_non) ss_next)
      (ss_asg (sd_sv (sv_call arr_id (sa_cons sd_var (sa_cons sd_var (sa_cons sd_var (sa_cons sd_var sa_nil)))) sa_nil)) sg_name)))
      (ss_retD sd_var)))⟩
theorem k_led_by {X : Cx} {K : PySem.W.Frag} {mg : PySem.Str → Option Value} {j : Nat} (T : Tx K mg) (hr : RoomG j X.A) (hj : 4 ≤ j := by decide) (hX : AtX X K mg := by exact ⟨rfl, rfl⟩) : CanG X (.ref (He.ga K "led_by")) [] (rFn 4 0 (SpF K (F_led_by (cK K))) idv E0) := by
  obtain ⟨rfl, rfl⟩ := hX
  obtain ⟨fd, F⟩ := T.c.def_ 29 (d := d_led_by) rfl
  exact can_fn (f_led_by T F) (hr.le hj) (kb_plain F 4 [] (fun us _ => us) (fun a _ => a) fun _ _ _ _ _ _ us ws h1 h2 => match us, h1, ws, h2 with | [_, _, _, _], _, [], _ => rfl) pass0
theorem f_chart_behind {P : Program} {w : World} {K : PySem.W.Frag} {mg : PySem.Str → Option Value} {base : Heap} (T : Tx K mg) {fd : FuncData} (F : FunD K d_chart_behind.name d_chart_behind.qual d_chart_behind.params d_chart_behind.body d_chart_behind.scope (d_chart_behind.dvs K) (d_chart_behind.kws K) (d_chart_behind.at_ K) fd) : FnG P w K mg base CX0 5 (d_chart_behind.at_ K) fd ["machine", "heard", "word"] (SpF K (F_chart_behind (cK K))) := by
  have nd := sc_chart_behind.nd
  exact fn_g F sc_chart_behind SpF.len fun cdv A fr s H vs Q E hr h => ⟨_, PSs.nox (pss_cons (ps_expr (pe_g (ks := []) rfl (T.g_ "want_heard") (T.k_ "want_heard") (k_want_heard (j := 4) T hr) (pa_cons (pv 0) (pa_cons (pv 1) pa_nil)) pk_nil))
      (pss_cons (ps_expr (pe_g (ks := []) rfl (T.g_ "want_word") (T.k_ "want_word") (k_want_word (j := 4) T hr) (pa_cons (pv 2) pa_nil) pk_nil))
      (pss_one (ps_ret (pe_g (ks := []) rfl (T.g_ "led_by") (T.k_ "led_by") (k_led_by (j := 4) T hr) (pa_cons (pv 0) (pa_cons (pv 1) (pa_cons (pe_g (ks := []) rfl (T.g_ "beginning") (T.k_ "beginning") (k_beginning (j := 4) T hr) (pa_cons (pv 0) (pa_cons (pv 1) pa_nil)) pk_nil) (pa_cons (pv 2) pa_nil)))) pk_nil))))), SpF.body (N := N_chart_behind) (ar := 3) h
    (ss_seq (ss_drop (sd_sv (sv_call arr_id (sa_cons sd_var (sa_cons sd_var sa_nil)) sa_nil)))
      (ss_seq (ss_drop (sd_sv (sv_call arr_id (sa_cons sd_var sa_nil) sa_nil)))
      (ss_retD (sd_sv (sv_call arr_id (sa_cons sd_var (sa_cons sd_var (sa_cons (sd_sv (sv_call arr_id (sa_cons sd_var (sa_cons sd_var sa_nil)) sa_nil)) (sa_cons sd_var sa_nil)))) sa_nil)))))⟩
theorem k_chart_behind {X : Cx} {K : PySem.W.Frag} {mg : PySem.Str → Option Value} {j : Nat} (T : Tx K mg) (hr : RoomG j X.A) (hj : 5 ≤ j := by decide) (hX : AtX X K mg := by exact ⟨rfl, rfl⟩) : CanG X (.ref (He.ga K "chart_behind")) [] (rFn 3 0 (SpF K (F_chart_behind (cK K))) idv E0) := by
  obtain ⟨rfl, rfl⟩ := hX
  obtain ⟨fd, F⟩ := T.c.def_ 30 (d := d_chart_behind) rfl
  exact can_fn (f_chart_behind T F) (hr.le hj) (kb_plain F 3 [] (fun us _ => us) (fun a _ => a) fun _ _ _ _ _ _ us ws h1 h2 => match us, h1, ws, h2 with | [_, _, _], _, [], _ => rfl) pass0
theorem k_chart_behind_word_heard_machine {X : Cx} {K : PySem.W.Frag} {mg : PySem.Str → Option Value} {j : Nat} (T : Tx K mg) (hr : RoomG j X.A) (hj : 5 ≤ j := by decide) (hX : AtX X K mg := by exact ⟨rfl, rfl⟩) : CanG X (.ref (He.ga K "chart_behind")) ["word", "heard", "machine"] (rFn 0 3 (SpF K (F_chart_behind (cK K))) (gP [2, 1, 0]) E0) := by
  obtain ⟨rfl, rfl⟩ := hX
  obtain ⟨fd, F⟩ := T.c.def_ 30 (d := d_chart_behind) rfl
  exact can_fn (f_chart_behind T F) (hr.le hj) (kb_plain F 0 ["word", "heard", "machine"] (gP [2, 1, 0]) vals_gP fun _ _ _ _ _ _ us ws h1 h2 => match us, h1, ws, h2 with | [], _, [_, _, _], _ => rfl) pass0
theorem f_next_letters {P : Program} {w : World} {K : PySem.W.Frag} {mg : PySem.Str → Option Value} {base : Heap} (T : Tx K mg) {fd : FuncData} (F : FunD K d_next_letters.name d_next_letters.qual d_next_letters.params d_next_letters.body d_next_letters.scope (d_next_letters.dvs K) (d_next_letters.kws K) (d_next_letters.at_ K) fd) : FnG P w K mg base CX0 7 (d_next_letters.at_ K) fd ["machine", "heard", "chart"] (SpF K (F_next_letters (cK K))) := by
  have nd := sc_next_letters.nd
  exact fn_g F sc_next_letters SpF.len fun cdv A fr s H vs Q E hr h => ⟨_, PSs.nox (pss_cons (ps_expr (pe_g (ks := []) rfl (T.g_ "want_chart") (T.k_ "want_chart") (k_want_chart (j := 6) T hr) (pa_cons (pv 0) (pa_cons (pv 1) (pa_cons (pv 2) pa_nil))) pk_nil))
      (pss_one (ps_ret (pe_g (ks := []) rfl (T.g_ "letters_next") (T.k_ "letters_next") (k_letters_next (j := 6) T hr) (pa_cons (pv 0) (pa_cons (pv 1) (pa_cons (pv 2) pa_nil))) pk_nil)))), SpF.body (N := N_next_letters) (ar := 3) h
    (ss_seq (ss_drop (sd_sv (sv_call arr_id (sa_cons sd_var (sa_cons sd_var (sa_cons sd_var sa_nil))) sa_nil)))
      (ss_retD (sd_sv (sv_call arr_id (sa_cons sd_var (sa_cons sd_var (sa_cons sd_var sa_nil))) sa_nil))))⟩
theorem k_next_letters {X : Cx} {K : PySem.W.Frag} {mg : PySem.Str → Option Value} {j : Nat} (T : Tx K mg) (hr : RoomG j X.A) (hj : 7 ≤ j := by decide) (hX : AtX X K mg := by exact ⟨rfl, rfl⟩) : CanG X (.ref (He.ga K "next_letters")) [] (rFn 3 0 (SpF K (F_next_letters (cK K))) idv E0) := by
  obtain ⟨rfl, rfl⟩ := hX
  obtain ⟨fd, F⟩ := T.c.def_ 31 (d := d_next_letters) rfl
  exact can_fn (f_next_letters T F) (hr.le hj) (kb_plain F 3 [] (fun us _ => us) (fun a _ => a) fun _ _ _ _ _ _ us ws h1 h2 => match us, h1, ws, h2 with | [_, _, _], _, [], _ => rfl) pass0
theorem f_is_run {P : Program} {w : World} {K : PySem.W.Frag} {mg : PySem.Str → Option Value} {base : Heap} (T : Tx K mg) {fd : FuncData} (F : FunD K d_is_run.name d_is_run.qual d_is_run.params d_is_run.body d_is_run.scope (d_is_run.dvs K) (d_is_run.kws K) (d_is_run.at_ K) fd) : FnG P w K mg base CX0 4 (d_is_run.at_ K) fd ["machine", "value"] (SpF K (F_is_run (cK K))) := by
  have nd := sc_is_run.nd
  exact fn_g F sc_is_run SpF.len fun cdv A fr s H vs Q E hr h => ⟨_, PSs.nox (pss_cons (ps_if (PW.pt (pw_or (pt_not (pt_val (pe_callB (x_isi T) rfl (T.f_ "isinstance") PyProof.Rows.boot_isinstance (pa_cons (pv 1) (pa_cons (pe_bltn (v := .ty "tuple") rfl (T.f_ "tuple") PyProof.Rows.boot_tuple rfl) pa_nil))))) (pw_or (pt_cmpR (x_ne (j := 3) T hr) (pe_callB (x_len T) rfl (T.f_ "len") PySem.boot_len (pa_cons (pv 1) pa_nil)) pe_int (nomark _)) (pw_or1 (pt_not (pt_val (pe_g (ks := []) rfl (T.g_ "is_place") (T.k_ "is_place") (k_is_place (j := 3) T hr) (pa_cons (pe_ix (x_ix T) (pv 1) pe_int fun _ _ => rfl) (pa_cons (p_Machine_places (j := 3) T hr (pv 0)) pa_nil)) pk_nil))))))) (pss_one (ps_ret pe_bl)) pss_nil)
      (pss_cons (ps_if (PW.pt (pw_or (pt_cmpR (x_notIn (j := 3) T hr) (pe_ix (x_ix T) (pv 1) pe_int fun _ _ => rfl) (pe_gm0 (ks := []) (pv 0) T.Machine_cl (T.m_Machine "begins") (k_Machine_begins (j := 3) T hr) pk_nil) (by rfl)) (pw_or1 (pt_not (pt_val (pe_g (ks := []) rfl (T.g_ "is_list") (T.k_ "is_list") (k_is_list (j := 3) T hr) (pa_cons (pe_ix (x_ix T) (pv 1) pe_int fun _ _ => rfl) pa_nil) pk_nil)))))) (pss_one (ps_ret pe_bl)) pss_nil)
      (pss_cons (ps_par (i := 2) (j := 3) rfl nd rfl rfl (by decide) rfl rfl (pa_cons (pe_ix (x_ix T) (pv 1) pe_int fun _ _ => rfl) (pa_cons (pe_gm0 (ks := []) (pv 0) T.Machine_cl (T.m_Machine "steps") (k_Machine_steps (j := 3) T hr) pk_nil) pa_nil)) rfl)
      (pss_cons (ps_for PassesOwn.never rfl (x_walk T (pe_ix (x_ix T) (pv 1) pe_int fun _ _ => rfl)) (pg_name (i := 4) nd rfl (Or.inl rfl)) (pss_cons (ps_if (PW.pt (pw_or (pt_not (pt_val (pe_g (ks := []) rfl (T.g_ "is_step") (T.k_ "is_step") (k_is_step (j := 3) T hr) (pa_cons (pv 4) (pa_cons (p_Machine_places (j := 3) T hr (pv 0)) pa_nil)) pk_nil))) (pw_or (pt_cmpR (x_notIn (j := 3) T hr) (pv 4) (pv 3) (by rfl)) (pw_or1 (pt_cmpR (x_ne (j := 3) T hr) (pe_ix (x_ix T) (pv 4) pe_int fun _ _ => rfl) (pv 2) (nomark _)))))) (pss_one (ps_ret pe_bl)) pss_nil)
      (pss_one (ps_set (i := 2) nd rfl (Or.inl rfl) (pe_ix (x_ix T) (pv 4) pe_int fun _ _ => rfl)))))
      (pss_one (ps_ret pe_bl)))))), SpF.body (N := N_is_run) (ar := 2) h
    (ss_seq (ss_if (st_or (st_not (st_B (sd_cb cs_isi (sa_cons sd_var (sa_cons sd_ty sa_nil))))) (st_or (st_test (sd_op os_ne (sd_cb cs_len (sa_cons sd_var sa_nil)) sd_int)) (st_not (st_B (sd_sv (sv_call arr_id (sa_cons (sd_op os_ix sd_var sd_int) (sa_cons (sd_sv (sv_prop sd_var)) sa_nil)) sa_nil)))))) (ss_retD sd_bl) ss_next)
      (ss_seq (ss_if (st_or (st_test (sd_op os_notIn (sd_op os_ix sd_var sd_int) (sd_sv (sv_meth arr_id sd_var sa_nil sa_nil)))) (st_not (st_B (sd_sv (sv_call arr_id (sa_cons (sd_op os_ix sd_var sd_int) sa_nil) sa_nil))))) (ss_retD sd_bl) ss_next)
      (ss_seq (ss_par (sv_sd (sd_op os_ix sd_var sd_int)) (sv_sd (sd_sv (sv_meth arr_id sd_var sa_nil sa_nil))))
      (ss_seq (ss_for (si_wk (sd_op os_ix sd_var sd_int)) sg_name (ss_seq (ss_if (st_or (st_not (st_B (sd_sv (sv_call arr_id (sa_cons sd_var (sa_cons (sd_sv (sv_prop sd_var)) sa_nil)) sa_nil)))) (st_or (st_test (sd_op os_notIn sd_var sd_var)) (st_test (sd_op os_ne (sd_op os_ix sd_var sd_int) sd_var)))) (ss_retD sd_bl) ss_next)
      (ss_asg (sd_op os_ix sd_var sd_int) sg_name)))
      (ss_retD sd_bl)))))⟩
theorem k_is_run {X : Cx} {K : PySem.W.Frag} {mg : PySem.Str → Option Value} {j : Nat} (T : Tx K mg) (hr : RoomG j X.A) (hj : 4 ≤ j := by decide) (hX : AtX X K mg := by exact ⟨rfl, rfl⟩) : CanG X (.ref (He.ga K "is_run")) [] (rFn 2 0 (SpF K (F_is_run (cK K))) idv E0) := by
  obtain ⟨rfl, rfl⟩ := hX
  obtain ⟨fd, F⟩ := T.c.def_ 32 (d := d_is_run) rfl
  exact can_fn (f_is_run T F) (hr.le hj) (kb_plain F 2 [] (fun us _ => us) (fun a _ => a) fun _ _ _ _ _ _ us ws h1 h2 => match us, h1, ws, h2 with | [_, _], _, [], _ => rfl) pass0
theorem f_want_run {P : Program} {w : World} {K : PySem.W.Frag} {mg : PySem.Str → Option Value} {base : Heap} (T : Tx K mg) {fd : FuncData} (F : FunD K d_want_run.name d_want_run.qual d_want_run.params d_want_run.body d_want_run.scope (d_want_run.dvs K) (d_want_run.kws K) (d_want_run.at_ K) fd) : FnG P w K mg base CX0 5 (d_want_run.at_ K) fd ["machine", "run"] (SpF K (F_want_run (cK K))) := by
  have nd := sc_want_run.nd
  exact fn_g F sc_want_run SpF.len fun cdv A fr s H vs Q E hr h => ⟨_, PSs.nox (pss_one (ps_if (pt_not (pt_val (pe_g (ks := []) rfl (T.g_ "is_run") (T.k_ "is_run") (k_is_run (j := 4) T hr) (pa_cons (pv 0) (pa_cons (pv 1) pa_nil)) pk_nil))) (pss_one ps_never) pss_nil)), SpF.body (N := N_want_run) (ar := 2) h
    (ss_if (st_not (st_B (sd_sv (sv_call arr_id (sa_cons sd_var (sa_cons sd_var sa_nil)) sa_nil)))) ss_never ss_next)⟩
theorem k_want_run {X : Cx} {K : PySem.W.Frag} {mg : PySem.Str → Option Value} {j : Nat} (T : Tx K mg) (hr : RoomG j X.A) (hj : 5 ≤ j := by decide) (hX : AtX X K mg := by exact ⟨rfl, rfl⟩) : CanG X (.ref (He.ga K "want_run")) [] (rFn 2 0 (SpF K (F_want_run (cK K))) idv E0) := by
  obtain ⟨rfl, rfl⟩ := hX
  obtain ⟨fd, F⟩ := T.c.def_ 33 (d := d_want_run) rfl
  exact can_fn (f_want_run T F) (hr.le hj) (kb_plain F 2 [] (fun us _ => us) (fun a _ => a) fun _ _ _ _ _ _ us ws h1 h2 => match us, h1, ws, h2 with | [_, _], _, [], _ => rfl) pass0
theorem f_stop_of {P : Program} {w : World} {K : PySem.W.Frag} {mg : PySem.Str → Option Value} {base : Heap} (T : Tx K mg) {fd : FuncData} (F : FunD K d_stop_of.name d_stop_of.qual d_stop_of.params d_stop_of.body d_stop_of.scope (d_stop_of.dvs K) (d_stop_of.kws K) (d_stop_of.at_ K) fd) : FnG P w K mg base CX0 6 (d_stop_of.at_ K) fd ["machine", "run"] (SpF K (F_stop_of (cK K))) := by
  have nd := sc_stop_of.nd
  exact fn_g F sc_stop_of SpF.len fun cdv A fr s H vs Q E hr h => ⟨_, PSs.nox (pss_cons (ps_expr (pe_g (ks := []) rfl (T.g_ "want_run") (T.k_ "want_run") (k_want_run (j := 5) T hr) (pa_cons (pv 0) (pa_cons (pv 1) pa_nil)) pk_nil))
      (pss_cons (ps_asg (pv 1) (x_gtup T (n := 2) (pgs_cons (pg_name (i := 2) nd rfl (Or.inl rfl)) (pgs_cons (pg_name (i := 3) nd rfl (Or.inl rfl)) pgs_nil))))
      (pss_one (ps_ret (pe_ifExp (pt_cmpR o_gt (pe_callB (x_len T) rfl (T.f_ "len") PySem.boot_len (pa_cons (pv 3) pa_nil)) pe_int (nomark _)) (pe_ix (x_ix T) (pe_ix (x_ix T) (pv 3) (pe_un o_neg pe_int) fun _ _ => rfl) pe_int fun _ _ => rfl) (pv 2)))))), SpF.body (N := N_stop_of) (ar := 2) h
    (ss_seq (ss_drop (sd_sv (sv_call arr_id (sa_cons sd_var (sa_cons sd_var sa_nil)) sa_nil)))
      (ss_seq (ss_asg sd_var (sg_tup (sg_cons sg_name (sg_cons sg_name sg_nil))))
      (ss_retD (sd_if (st_test (sd_op os_gt (sd_cb cs_len (sa_cons sd_var sa_nil)) sd_int)) (sd_op os_ix (sd_op os_ix sd_var (sd_un us_neg sd_int)) sd_int) sd_var))))⟩
theorem k_stop_of {X : Cx} {K : PySem.W.Frag} {mg : PySem.Str → Option Value} {j : Nat} (T : Tx K mg) (hr : RoomG j X.A) (hj : 6 ≤ j := by decide) (hX : AtX X K mg := by exact ⟨rfl, rfl⟩) : CanG X (.ref (He.ga K "stop_of")) [] (rFn 2 0 (SpF K (F_stop_of (cK K))) idv E0) := by
  obtain ⟨rfl, rfl⟩ := hX
  obtain ⟨fd, F⟩ := T.c.def_ 34 (d := d_stop_of) rfl
  exact can_fn (f_stop_of T F) (hr.le hj) (kb_plain F 2 [] (fun us _ => us) (fun a _ => a) fun _ _ _ _ _ _ us ws h1 h2 => match us, h1, ws, h2 with | [_, _], _, [], _ => rfl) pass0
theorem f_heard_of {P : Program} {w : World} {K : PySem.W.Frag} {mg : PySem.Str → Option Value} {base : Heap} (T : Tx K mg) {fd : FuncData} (F : FunD K d_heard_of.name d_heard_of.qual d_heard_of.params d_heard_of.body d_heard_of.scope (d_heard_of.dvs K) (d_heard_of.kws K) (d_heard_of.at_ K) fd) : FnG P w K mg base CX0 6 (d_heard_of.at_ K) fd ["machine", "heard", "run"] (SpF K (F_heard_of (cK K))) := by
  have nd := sc_heard_of.nd
  exact fn_g F sc_heard_of SpF.len fun cdv A fr s H vs Q E hr h => ⟨_, PSs.nox (pss_cons (ps_expr (pe_g (ks := []) rfl (T.g_ "want_heard") (T.k_ "want_heard") (k_want_heard (j := 5) T hr) (pa_cons (pv 0) (pa_cons (pv 1) pa_nil)) pk_nil))
      (pss_cons (ps_expr (pe_g (ks := []) rfl (T.g_ "want_run") (T.k_ "want_run") (k_want_run (j := 5) T hr) (pa_cons (pv 0) (pa_cons (pv 2) pa_nil)) pk_nil))
      (pss_one (ps_ret (x_join T pe_str (pe_lc (own := [("near", 3), ("letter", 4), ("far", 5)]) (g := gTup K 3 (gCons (gName 3) (gCons (gName 4) (gCons (gName 5) gNil)))) rfl nd (x_walk T (pe_ix (x_ix T) (pv 2) pe_int fun _ _ => rfl)) (blkOk_by (N := N_heard_of) (sc := defScope s_heard_of) (by decide +kernel)) (fun _ _ _ _ _ => x_gtup T (n := 3) (pgs_cons (pg_name (i := 3) nd rfl (Or.inl rfl)) (pgs_cons (pg_name (i := 4) nd rfl (Or.inl rfl)) (pgs_cons (pg_name (i := 5) nd rfl (Or.inl rfl)) pgs_nil)))) (fun _ _ _ _ _ => (pts_one (pt_cmpR (x_in (j := 5) T hr) (pv 4) (pv 1) (by rfl)))) (fun _ _ _ _ _ => (pv 4)))))))), SpF.body (N := N_heard_of) (ar := 3) h
    (ss_seq (ss_drop (sd_sv (sv_call arr_id (sa_cons sd_var (sa_cons sd_var sa_nil)) sa_nil)))
      (ss_seq (ss_drop (sd_sv (sv_call arr_id (sa_cons sd_var (sa_cons sd_var sa_nil)) sa_nil)))
      (ss_retD (sd_join sd_str (sd_fz (so_lc (si_wk (sd_op os_ix sd_var sd_int)) (sg_tup (sg_cons sg_name (sg_cons sg_name (sg_cons sg_name sg_nil)))) (st_test (sd_op os_in sd_var sd_var)) sd_var (by decide)))))))⟩
theorem k_heard_of {X : Cx} {K : PySem.W.Frag} {mg : PySem.Str → Option Value} {j : Nat} (T : Tx K mg) (hr : RoomG j X.A) (hj : 6 ≤ j := by decide) (hX : AtX X K mg := by exact ⟨rfl, rfl⟩) : CanG X (.ref (He.ga K "heard_of")) [] (rFn 3 0 (SpF K (F_heard_of (cK K))) idv E0) := by
  obtain ⟨rfl, rfl⟩ := hX
  obtain ⟨fd, F⟩ := T.c.def_ 35 (d := d_heard_of) rfl
  exact can_fn (f_heard_of T F) (hr.le hj) (kb_plain F 3 [] (fun us _ => us) (fun a _ => a) fun _ _ _ _ _ _ us ws h1 h2 => match us, h1, ws, h2 with | [_, _, _], _, [], _ => rfl) pass0
theorem f_next_spots {P : Program} {w : World} {K : PySem.W.Frag} {mg : PySem.Str → Option Value} {base : Heap} (T : Tx K mg) {fd : FuncData} (F : FunD K d_next_spots.name d_next_spots.qual d_next_spots.params d_next_spots.body d_next_spots.scope (d_next_spots.dvs K) (d_next_spots.kws K) (d_next_spots.at_ K) fd) : FnG P w K mg base CX0 2 (d_next_spots.at_ K) fd ["machine", "heard", "word", "spot"] (SpF K (F_next_spots (cK K))) := by
  have nd := sc_next_spots.nd
  exact fn_g F sc_next_spots SpF.len fun cdv A fr s H vs Q E hr h => ⟨_, PSs.nox (pss_cons (ps_asg (pv 3) (x_gtup T (n := 2) (pgs_cons (pg_name (i := 4) nd rfl (Or.inl rfl)) (pgs_cons (pg_name (i := 5) nd rfl (Or.inl rfl)) pgs_nil))))
      (pss_cons (ps_set (i := 6) nd rfl (Or.inl rfl) (pe_lst pa_nil))
      (pss_cons (ps_for PassesOwn.never rfl (x_walk T (pe_gm0 (ks := []) (pv 0) T.Machine_cl (T.m_Machine "steps") (k_Machine_steps (j := 1) T hr) pk_nil)) (pg_name (i := 7) nd rfl (Or.inl rfl)) (pss_one (ps_if (PW.pt (pw_and (pt_cmpR (x_eq (j := 1) T hr) (pe_ix (x_ix T) (pv 7) pe_int fun _ _ => rfl) (pv 4) (nomark _)) (pw_and1 (PW.pt (pw_or (pt_cmpR (x_eq (j := 1) T hr) (pe_ix (x_ix T) (pv 7) pe_int fun _ _ => rfl) pe_str (nomark _)) (pw_or1 (pt_cmpR (x_notIn (j := 1) T hr) (pe_ix (x_ix T) (pv 7) pe_int fun _ _ => rfl) (pv 1) (by rfl)))))))) (pss_one (ps_expr (pe_bm PySem.F.plainAttrs_list PySem.F.slot_list_append PySem.F.type_list_append mt_append (pv 6) (pa_cons (pe_tup (pa_cons (pv 7) (pa_cons (pe_tup (pa_cons (pe_ix (x_ix T) (pv 7) pe_int fun _ _ => rfl) (pa_cons (pv 5) pa_nil))) pa_nil))) pa_nil)))) (pss_one (ps_if (PW.pt (pw_and (pt_cmpR (x_eq (j := 1) T hr) (pe_ix (x_ix T) (pv 7) pe_int fun _ _ => rfl) (pv 4) (nomark _)) (pw_and1 (pt_cmpR (x_eq (j := 1) T hr) (pe_ix (x_ix T) (pv 7) pe_int fun _ _ => rfl) (pe_slice (x_sl T) (pv 2) (po_some (pv 5)) (po_some (pe_op (x_add T) (pv 5) pe_int))) (nomark _))))) (pss_one (ps_expr (pe_bm PySem.F.plainAttrs_list PySem.F.slot_list_append PySem.F.type_list_append mt_append (pv 6) (pa_cons (pe_tup (pa_cons (pv 7) (pa_cons (pe_tup (pa_cons (pe_ix (x_ix T) (pv 7) pe_int fun _ _ => rfl) (pa_cons (pe_op (x_add T) (pv 5) pe_int) pa_nil))) pa_nil))) pa_nil)))) pss_nil)))))
      (pss_one (ps_ret (pv 6)))))), SpF.body (N := N_next_spots) (ar := 4) h
    (ss_seq (ss_asg sd_var (sg_tup (sg_cons sg_name (sg_cons sg_name sg_nil))))
      (ss_seq (ss_asgV (sv_so (so_lst sa_nil)))
      (ss_seq (ss_for (si_wk (sd_sv (sv_meth arr_id sd_var sa_nil sa_nil))) sg_name (ss_if (st_and (st_test (sd_op os_eq (sd_op os_ix sd_var sd_int) sd_var)) (st_or (st_test (sd_op os_eq (sd_op os_ix sd_var sd_int) sd_str)) (st_test (sd_op os_notIn (sd_op os_ix sd_var sd_int) sd_var)))) (ss_drop (sd_app (sd_tup (sa_cons sd_var (sa_cons (sd_tup (sa_cons (sd_op os_ix sd_var sd_int) (sa_cons sd_var sa_nil))) sa_nil))))) (ss_if (st_and (st_test (sd_op os_eq (sd_op os_ix sd_var sd_int) sd_var)) (st_test (sd_op os_eq (sd_op os_ix sd_var sd_int) (sd_sl sd_var (oi_some sd_var) (oi_some (sd_op os_add sd_var sd_int)))))) (ss_drop (sd_app (sd_tup (sa_cons sd_var (sa_cons (sd_tup (sa_cons (sd_op os_ix sd_var sd_int) (sa_cons (sd_op os_add sd_var sd_int) sa_nil))) sa_nil))))) ss_next)))
      (ss_retD sd_var))))⟩
theorem k_next_spots {X : Cx} {K : PySem.W.Frag} {mg : PySem.Str → Option Value} {j : Nat} (T : Tx K mg) (hr : RoomG j X.A) (hj : 2 ≤ j := by decide) (hX : AtX X K mg := by exact ⟨rfl, rfl⟩) : CanG X (.ref (He.ga K "next_spots")) [] (rFn 4 0 (SpF K (F_next_spots (cK K))) idv E0) := by
  obtain ⟨rfl, rfl⟩ := hX
  obtain ⟨fd, F⟩ := T.c.def_ 36 (d := d_next_spots) rfl
  exact can_fn (f_next_spots T F) (hr.le hj) (kb_plain F 4 [] (fun us _ => us) (fun a _ => a) fun _ _ _ _ _ _ us ws h1 h2 => match us, h1, ws, h2 with | [_, _, _, _], _, [], _ => rfl) pass0
theorem f_spots_from {P : Program} {w : World} {K : PySem.W.Frag} {mg : PySem.Str → Option Value} {base : Heap} (T : Tx K mg) {fd : FuncData} (F : FunD K d_spots_from.name d_spots_from.qual d_spots_from.params d_spots_from.body d_spots_from.scope (d_spots_from.dvs K) (d_spots_from.kws K) (d_spots_from.at_ K) fd) : FnG P w K mg base CX0 3 (d_spots_from.at_ K) fd ["machine", "heard", "word"] (SpF K (F_spots_from (cK K))) := by
  have nd := sc_spots_from.nd
  exact fn_g F sc_spots_from SpF.len fun cdv A fr s H vs Q E hr h => ⟨_, PSs.nox (pss_cons (ps_set (i := 3) nd rfl (Or.inl rfl) pe_dnewT)
      (pss_cons (ps_for PassesOwn.never rfl (x_walk T (pe_gm0 (ks := []) (pv 0) T.Machine_cl (T.m_Machine "begins") (k_Machine_begins (j := 2) T hr) pk_nil)) (pg_name (i := 4) nd rfl (Or.inl rfl)) (pss_one (ps_asg pe_non (pg_sub (pv 3) (pe_tup (pa_cons (pv 4) (pa_cons pe_int pa_nil))) (set_dict (x_un (j := 2) T hr))))))
      (pss_cons (ps_set (i := 5) nd rfl (Or.inl rfl) (pe_callTy (k_listT rfl) rfl (T.f_ "list") PyProof.Rows.boot_list (pa_cons (pv 3) pa_nil)))
      (pss_cons (ps_while PassesOwn.never (pt_cmpR (x_ne (j := 2) T hr) (pv 5) (pe_lst pa_nil) (nomark _)) (pss_cons (ps_set (i := 6) nd rfl (Or.inl rfl) (pe_bm PySem.F.plainAttrs_list PySem.F.slot_list_pop PySem.F.type_list_pop mt_popAt (pv 5) (pa_cons pe_int pa_nil)))
      (pss_one (ps_for PassesOwn.never rfl (x_walk T (pe_g (ks := []) rfl (T.g_ "next_spots") (T.k_ "next_spots") (k_next_spots (j := 2) T hr) (pa_cons (pv 0) (pa_cons (pv 1) (pa_cons (pv 2) (pa_cons (pv 6) pa_nil)))) pk_nil)) (x_gtup T (n := 2) (pgs_cons (pg_name (i := 7) nd rfl (Or.inl rfl)) (pgs_cons (pg_name (i := 8) nd rfl (Or.inl rfl)) pgs_nil))) (pss_one (ps_if (pt_cmp (pc_dnotin (x_un (j := 2) T hr) (pv 8) (pv 3))) (pss_cons (ps_asg (pe_tup (pa_cons (pv 6) (pa_cons (pv 7) pa_nil))) (pg_sub (pv 3) (pv 8) (set_dict (x_un (j := 2) T hr))))
      (pss_one (ps_expr (pe_bm PySem.F.plainAttrs_list PySem.F.slot_list_append PySem.F.type_list_append mt_append (pv 5) (pa_cons (pv 8) pa_nil))))) pss_nil))))))
      (pss_one (ps_ret (pv 3))))))), SpF.body (N := N_spots_from) (ar := 3) h
    (ss_seq (ss_asgV (sv_so so_dnewT))
      (ss_seq (ss_for (si_wk (sd_sv (sv_meth arr_id sd_var sa_nil sa_nil))) sg_name (ss_asg sd_non (sg_subD (sd_tup (sa_cons sd_var (sa_cons sd_int sa_nil))))))
      (ss_seq (ss_asgV (sv_so so_listT))
      (ss_seq (ss_while (st_lo (st_test (sd_op os_ne sd_var (sd_fz (so_lst sa_nil))))) (ss_seq (ss_asg (sd_popAt sd_int) sg_name)
      (ss_for (si_wk (sd_sv (sv_call arr_id (sa_cons sd_var (sa_cons sd_var (sa_cons sd_var (sa_cons sd_var sa_nil)))) sa_nil))) (sg_tup (sg_cons sg_name (sg_cons sg_name sg_nil))) (ss_if (st_lo (st_B (sd_dnotin sd_var sd_var))) (ss_seq (ss_asg (sd_tup (sa_cons sd_var (sa_cons sd_var sa_nil))) (sg_subD sd_var))
      (ss_drop (sd_app sd_var))) ss_next))))
      (ss_retD sd_var)))))⟩
theorem k_spots_from {X : Cx} {K : PySem.W.Frag} {mg : PySem.Str → Option Value} {j : Nat} (T : Tx K mg) (hr : RoomG j X.A) (hj : 3 ≤ j := by decide) (hX : AtX X K mg := by exact ⟨rfl, rfl⟩) : CanG X (.ref (He.ga K "spots_from")) [] (rFn 3 0 (SpF K (F_spots_from (cK K))) idv E0) := by
  obtain ⟨rfl, rfl⟩ := hX
  obtain ⟨fd, F⟩ := T.c.def_ 37 (d := d_spots_from) rfl
  exact can_fn (f_spots_from T F) (hr.le hj) (kb_plain F 3 [] (fun us _ => us) (fun a _ => a) fun _ _ _ _ _ _ us ws h1 h2 => match us, h1, ws, h2 with | [_, _, _], _, [], _ => rfl) pass0
theorem f_run_for {P : Program} {w : World} {K : PySem.W.Frag} {mg : PySem.Str → Option Value} {base : Heap} (T : Tx K mg) {fd : FuncData} (F : FunD K d_run_for.name d_run_for.qual d_run_for.params d_run_for.body d_run_for.scope (d_run_for.dvs K) (d_run_for.kws K) (d_run_for.at_ K) fd) : FnG P w K mg base CX0 5 (d_run_for.at_ K) fd ["machine", "heard", "word", "place"] (SpF K (F_run_for (cK K))) := by
  have nd := sc_run_for.nd
  exact fn_g F sc_run_for SpF.len fun cdv A fr s H vs Q E hr h => ⟨_, PSs.nox (pss_cons (ps_expr (pe_g (ks := []) rfl (T.g_ "want_heard") (T.k_ "want_heard") (k_want_heard (j := 4) T hr) (pa_cons (pv 0) (pa_cons (pv 1) pa_nil)) pk_nil))
      (pss_cons (ps_expr (pe_g (ks := []) rfl (T.g_ "want_word") (T.k_ "want_word") (k_want_word (j := 4) T hr) (pa_cons (pv 2) pa_nil) pk_nil))
      (pss_cons (ps_expr (pe_g (ks := []) rfl (T.g_ "want_place") (T.k_ "want_place") (k_want_place (j := 4) T hr) (pa_cons (pv 0) (pa_cons (pv 3) pa_nil)) pk_nil))
      (pss_cons (ps_if (pt_cmpR o_gt (pe_callB (x_len T) rfl (T.f_ "len") PySem.boot_len (pa_cons (pv 2) pa_nil)) (x_cstI T T.MOST_HEARD_) (nomark _)) (pss_one ps_never) pss_nil)
      (pss_cons (ps_set (i := 4) nd rfl (Or.inl rfl) (pe_g (ks := []) rfl (T.g_ "spots_from") (T.k_ "spots_from") (k_spots_from (j := 4) T hr) (pa_cons (pv 0) (pa_cons (pv 1) (pa_cons (pv 2) pa_nil))) pk_nil))
      (pss_cons (ps_par (i := 5) (j := 6) rfl nd rfl rfl (by decide) rfl rfl (pa_cons (pe_tup (pa_cons (pv 3) (pa_cons (pe_callB (x_len T) rfl (T.f_ "len") PySem.boot_len (pa_cons (pv 2) pa_nil)) pa_nil))) (pa_cons (pe_lst pa_nil) pa_nil)) rfl)
      (pss_cons (ps_if (pt_cmp (pc_dnotin (x_un (j := 4) T hr) (pv 5) (pv 4))) (pss_one (ps_ret pe_non)) pss_nil)
      (pss_cons (ps_while PassesOwn.never (pt_cmpR o_isNot (pe_dget (x_un (j := 4) T hr) (pv 4) (pv 5) fun _ _ => rfl) pe_non (nomark _)) (pss_cons (ps_asg (pe_dget (x_un (j := 4) T hr) (pv 4) (pv 5) fun _ _ => rfl) (x_gtup T (n := 2) (pgs_cons (pg_name (i := 5) nd rfl (Or.inl rfl)) (pgs_cons (pg_name (i := 7) nd rfl (Or.inl rfl)) pgs_nil))))
      (pss_one (ps_expr (pe_bm PySem.F.plainAttrs_list PySem.F.slot_list_append PySem.F.type_list_append mt_append (pv 6) (pa_cons (pv 7) pa_nil))))))
      (pss_one (ps_ret (pe_tup (pa_cons (pe_ix (x_ix T) (pv 5) pe_int fun _ _ => rfl) (pa_cons (pe_revL (pv 6)) pa_nil))))))))))))), SpF.body (N := N_run_for) (ar := 4) h
    (ss_seq (ss_drop (sd_sv (sv_call arr_id (sa_cons sd_var (sa_cons sd_var sa_nil)) sa_nil)))
      (ss_seq (ss_drop (sd_sv (sv_call arr_id (sa_cons sd_var sa_nil) sa_nil)))
      (ss_seq (ss_drop (sd_sv (sv_call arr_id (sa_cons sd_var (sa_cons sd_var sa_nil)) sa_nil)))
      (ss_seq (ss_if (st_test (sd_op os_gt (sd_cb cs_len (sa_cons sd_var sa_nil)) sd_int)) ss_never ss_next)
      (ss_seq (ss_asg (sd_sv (sv_call arr_id (sa_cons sd_var (sa_cons sd_var (sa_cons sd_var sa_nil))) sa_nil)) sg_name)
      (ss_seq (ss_par (sv_sd (sd_tup (sa_cons sd_var (sa_cons (sd_cb cs_len (sa_cons sd_var sa_nil)) sa_nil)))) (sv_so (so_lst sa_nil)))
      (ss_seq (ss_if (st_B (sd_dnotin sd_var sd_var)) (ss_retD sd_non) ss_next)
      (ss_seq (ss_while (st_test (sd_op os_isNot (sd_dget sd_var sd_var) sd_non)) (ss_seq (ss_asg (sd_dget sd_var sd_var) (sg_tup (sg_cons sg_name (sg_cons sg_name sg_nil))))
      (ss_drop (sd_app sd_var))))
      (ss_retT (sd_op os_ix sd_var sd_int) (so_rev sd_var))))))))))⟩
theorem k_run_for {X : Cx} {K : PySem.W.Frag} {mg : PySem.Str → Option Value} {j : Nat} (T : Tx K mg) (hr : RoomG j X.A) (hj : 5 ≤ j := by decide) (hX : AtX X K mg := by exact ⟨rfl, rfl⟩) : CanG X (.ref (He.ga K "run_for")) [] (rFn 4 0 (SpF K (F_run_for (cK K))) idv E0) := by
  obtain ⟨rfl, rfl⟩ := hX
  obtain ⟨fd, F⟩ := T.c.def_ 38 (d := d_run_for) rfl
  exact can_fn (f_run_for T F) (hr.le hj) (kb_plain F 4 [] (fun us _ => us) (fun a _ => a) fun _ _ _ _ _ _ us ws h1 h2 => match us, h1, ws, h2 with | [_, _, _, _], _, [], _ => rfl) pass0
theorem k_run_for_place_word_heard_machine {X : Cx} {K : PySem.W.Frag} {mg : PySem.Str → Option Value} {j : Nat} (T : Tx K mg) (hr : RoomG j X.A) (hj : 5 ≤ j := by decide) (hX : AtX X K mg := by exact ⟨rfl, rfl⟩) : CanG X (.ref (He.ga K "run_for")) ["place", "word", "heard", "machine"] (rFn 0 4 (SpF K (F_run_for (cK K))) (gP [3, 2, 1, 0]) E0) := by
  obtain ⟨rfl, rfl⟩ := hX
  obtain ⟨fd, F⟩ := T.c.def_ 38 (d := d_run_for) rfl
  exact can_fn (f_run_for T F) (hr.le hj) (kb_plain F 0 ["place", "word", "heard", "machine"] (gP [3, 2, 1, 0]) vals_gP fun _ _ _ _ _ _ us ws h1 h2 => match us, h1, ws, h2 with | [], _, [_, _, _, _], _ => rfl) pass0
theorem f__law_pot {P : Program} {w : World} {K : PySem.W.Frag} {mg : PySem.Str → Option Value} {base : Heap} (T : Tx K mg) {fd : FuncData} (F : FunD K d__law_pot.name d__law_pot.qual d__law_pot.params d__law_pot.body d__law_pot.scope (d__law_pot.dvs K) (d__law_pot.kws K) (d__law_pot.at_ K) fd) : FnG P w K mg base CX0 1 (d__law_pot.at_ K) fd ["script", "k"] (SpF K (F__law_pot (cK K))) := by
  have nd := sc__law_pot.nd
  exact fn_g F sc__law_pot SpF.len fun cdv A fr s H vs Q E hr h => ⟨_, PSs.nox (pss_cons (ps_set (i := 2) nd rfl (Or.inl rfl) (pe_op (x_add T) (pe_op o_mul pe_int (pv 1)) pe_int))
      (pss_cons (ps_if (pt_cmpR o_ltA (pv 1) (pe_callB (x_len T) rfl (T.f_ "len") PySem.boot_len (pa_cons (pv 0) pa_nil)) (nomark _)) (pss_one (ps_set (i := 2) nd rfl (Or.inl rfl) (pe_callB k_abs rfl (T.f_ "abs") PyProof.Rows.boot_abs (pa_cons (pe_ix (x_ix T) (pv 0) (pv 1) fun _ _ => rfl) pa_nil)))) pss_nil)
      (pss_one (ps_ret (pe_lst (pa_cons (pe_callB (k_max rfl) rfl (T.f_ "max") PyProof.Rows.boot_max (pa_cons pe_int (pa_cons (pe_op o_sub (pv 2) (pe_op o_pow pe_int pe_int)) pa_nil))) (pa_cons (pe_op (x_add T) (pe_op o_mod (pe_op o_mul (pe_callTy k_int rfl (T.f_ "int") PyProof.Rows.boot_int (pa_cons (pe_op (x_add T) (pe_op o_mod (pe_callTy k_int rfl (T.f_ "int") PyProof.Rows.boot_int (pa_cons (pv 2) pa_nil)) pe_int) pe_int) pa_nil)) (pe_op o_pow (pe_op (x_add T) (pe_op o_mul pe_int (pv 1)) pe_int) pe_int)) pe_int) pe_int) pa_nil))))))), SpF.body (N := N__law_pot) (ar := 2) h
    (ss_seq (ss_asg (sd_op os_add (sd_op os_mul sd_int sd_var) sd_int) sg_name)
      (ss_seq (ss_if (st_test (sd_op os_lt sd_var (sd_cb cs_len (sa_cons sd_var sa_nil)))) (ss_asg (sd_cb cs_abs (sa_cons (sd_op os_ix sd_var sd_var) sa_nil)) sg_name) ss_next)
      (ss_ret (sv_so (so_lst (sa_cons (sd_cb cs_max (sa_cons sd_int (sa_cons (sd_op os_sub sd_var (sd_op os_pow sd_int sd_int)) sa_nil))) (sa_cons (sd_op os_add (sd_op os_mod (sd_op os_mul (sd_cb cs_int (sa_cons (sd_op os_add (sd_op os_mod (sd_cb cs_int (sa_cons sd_var sa_nil)) sd_int) sd_int) sa_nil)) (sd_op os_pow (sd_op os_add (sd_op os_mul sd_int sd_var) sd_int) sd_int)) sd_int) sd_int) sa_nil)))))))⟩
theorem k__law_pot {X : Cx} {K : PySem.W.Frag} {mg : PySem.Str → Option Value} {j : Nat} (T : Tx K mg) (hr : RoomG j X.A) (hj : 1 ≤ j := by decide) (hX : AtX X K mg := by exact ⟨rfl, rfl⟩) : CanG X (.ref (He.ga K "_law_pot")) [] (rFn 2 0 (SpF K (F__law_pot (cK K))) idv E0) := by
  obtain ⟨rfl, rfl⟩ := hX
  obtain ⟨fd, F⟩ := T.c.def_ 39 (d := d__law_pot) rfl
  exact can_fn (f__law_pot T F) (hr.le hj) (kb_plain F 2 [] (fun us _ => us) (fun a _ => a) fun _ _ _ _ _ _ us ws h1 h2 => match us, h1, ws, h2 with | [_, _], _, [], _ => rfl) pass0
theorem f__law_draw {P : Program} {w : World} {K : PySem.W.Frag} {mg : PySem.Str → Option Value} {base : Heap} (T : Tx K mg) {fd : FuncData} (F : FunD K d__law_draw.name d__law_draw.qual d__law_draw.params d__law_draw.body d__law_draw.scope (d__law_draw.dvs K) (d__law_draw.kws K) (d__law_draw.at_ K) fd) : FnG P w K mg base CX0 1 (d__law_draw.at_ K) fd ["pot", "size"] (SpF K (F__law_draw (cK K))) := by
  have nd := sc__law_draw.nd
  exact fn_g F sc__law_draw SpF.len fun cdv A fr s H vs Q E hr h => ⟨_, PSs.nox (pss_cons (ps_if (pt_cmpR o_gt (pe_ix (x_ix T) (pv 0) pe_int fun _ _ => rfl) pe_int (nomark _)) (pss_cons (ps_asg (pe_callB k_divmod rfl (T.f_ "divmod") PyProof.Rows.boot_divmod (pa_cons (pe_ix (x_ix T) (pv 0) pe_int fun _ _ => rfl) (pa_cons (pv 1) pa_nil))) (x_gtup T (n := 2) (pgs_cons (pg_sub (pv 0) pe_int set_list) (pgs_cons (pg_name (i := 2) nd rfl (Or.inl rfl)) pgs_nil))))
      (pss_one (ps_ret (pv 2)))) pss_nil)
      (pss_cons (ps_asg (pe_op o_mod (pe_callTy k_int rfl (T.f_ "int") PyProof.Rows.boot_int (pa_cons (pe_op (x_add T) (pe_op o_mul (pe_ix (x_ix T) (pv 0) pe_int fun _ _ => rfl) pe_int) pe_int) pa_nil)) pe_int) (pg_sub (pv 0) pe_int set_list))
      (pss_one (ps_ret (pe_op o_mod (pe_callTy k_int rfl (T.f_ "int") PyProof.Rows.boot_int (pa_cons (pe_op o_fd (pe_op o_mod (pe_callTy k_int rfl (T.f_ "int") PyProof.Rows.boot_int (pa_cons (pe_op o_mul (pe_ix (x_ix T) (pv 0) pe_int fun _ _ => rfl) (pe_ix (x_ix T) (pv 0) pe_int fun _ _ => rfl)) pa_nil)) pe_int) pe_int) pa_nil)) (pv 1)))))), SpF.body (N := N__law_draw) (ar := 2) h
    (ss_seq (ss_if (st_lo (st_test (sd_op os_gt (sd_ixV os_ix sd_int) sd_int))) (ss_seq (ss_asg (sd_cb cs_divmod (sa_cons (sd_ixV os_ix sd_int) (sa_cons sd_var sa_nil))) (sg_tup (sg_cons (sg_subL sd_int) (sg_cons sg_name sg_nil))))
      (ss_retD sd_var)) ss_next)
      (ss_seq (ss_asg (sd_op os_mod (sd_cb cs_int (sa_cons (sd_op os_add (sd_op os_mul (sd_ixV os_ix sd_int) sd_int) sd_int) sa_nil)) sd_int) (sg_subL sd_int))
      (ss_retD (sd_op os_mod (sd_cb cs_int (sa_cons (sd_op os_fd (sd_op os_mod (sd_cb cs_int (sa_cons (sd_op os_mul (sd_ixV os_ix sd_int) (sd_ixV os_ix sd_int)) sa_nil)) sd_int) sd_int) sa_nil)) sd_var))))⟩
theorem k__law_draw {X : Cx} {K : PySem.W.Frag} {mg : PySem.Str → Option Value} {j : Nat} (T : Tx K mg) (hr : RoomG j X.A) (hj : 1 ≤ j := by decide) (hX : AtX X K mg := by exact ⟨rfl, rfl⟩) : CanG X (.ref (He.ga K "_law_draw")) [] (rFn 2 0 (SpF K (F__law_draw (cK K))) idv E0) := by
  obtain ⟨rfl, rfl⟩ := hX
  obtain ⟨fd, F⟩ := T.c.def_ 40 (d := d__law_draw) rfl
  exact can_fn (f__law_draw T F) (hr.le hj) (kb_plain F 2 [] (fun us _ => us) (fun a _ => a) fun _ _ _ _ _ _ us ws h1 h2 => match us, h1, ws, h2 with | [_, _], _, [], _ => rfl) pass0
theorem f__law_pick {P : Program} {w : World} {K : PySem.W.Frag} {mg : PySem.Str → Option Value} {base : Heap} (T : Tx K mg) {fd : FuncData} (F : FunD K d__law_pick.name d__law_pick.qual d__law_pick.params d__law_pick.body d__law_pick.scope (d__law_pick.dvs K) (d__law_pick.kws K) (d__law_pick.at_ K) fd) : FnG P w K mg base CX0 2 (d__law_pick.at_ K) fd ["pot", "some"] (SpF K (F__law_pick (cK K))) := by
  have nd := sc__law_pick.nd
  exact fn_g F sc__law_pick SpF.len fun cdv A fr s H vs Q E hr h => ⟨_, PSs.nox (pss_one (ps_ret (pe_ix (x_ix T) (pv 1) (pe_g (ks := []) rfl (T.g_ "_law_draw") (T.k_ "_law_draw") (k__law_draw (j := 1) T hr) (pa_cons (pv 0) (pa_cons (pe_callB (x_len T) rfl (T.f_ "len") PySem.boot_len (pa_cons (pv 1) pa_nil)) pa_nil)) pk_nil) fun _ _ => rfl))), SpF.body (N := N__law_pick) (ar := 2) h
    (ss_retD (sd_op os_ix sd_var (sd_sv (sv_callC arrC_id (sa_cons (sd_cb cs_len (sa_cons sd_var sa_nil)) sa_nil) sa_nil))))⟩
theorem k__law_pick {X : Cx} {K : PySem.W.Frag} {mg : PySem.Str → Option Value} {j : Nat} (T : Tx K mg) (hr : RoomG j X.A) (hj : 2 ≤ j := by decide) (hX : AtX X K mg := by exact ⟨rfl, rfl⟩) : CanG X (.ref (He.ga K "_law_pick")) [] (rFn 2 0 (SpF K (F__law_pick (cK K))) idv E0) := by
  obtain ⟨rfl, rfl⟩ := hX
  obtain ⟨fd, F⟩ := T.c.def_ 41 (d := d__law_pick) rfl
  exact can_fn (f__law_pick T F) (hr.le hj) (kb_plain F 2 [] (fun us _ => us) (fun a _ => a) fun _ _ _ _ _ _ us ws h1 h2 => match us, h1, ws, h2 with | [_, _], _, [], _ => rfl) pass0
end DV

set_option Elab.async false
set_option autoImplicit false
set_option linter.all false
set_option maxRecDepth 100000
set_option maxHeartbeats 4000000
namespace DV
open PySem PySem.Spec PyProof.Rows L2
theorem f__law_net {P : Program} {w : World} {K : PySem.W.Frag} {mg : PySem.Str → Option Value} {base : Heap} (T : Tx K mg) {fd : FuncData} (F : FunD K d__law_net.name d__law_net.qual d__law_net.params d__law_net.body d__law_net.scope (d__law_net.dvs K) (d__law_net.kws K) (d__law_net.at_ K) fd) : FnG P w K mg base CX0 3 (d__law_net.at_ K) fd ["pot", "most"] (SpF K (F__law_net (cK K))) := by
  have nd := sc__law_net.nd
  exact fn_g F sc__law_net SpF.len fun cdv A fr s H vs Q E hr h => ⟨_, PSs.nox (pss_cons (ps_par (i := 2) (j := 3) rfl nd rfl rfl (by decide) rfl rfl (pa_cons (pe_op (x_add T) pe_int (pe_g (ks := []) rfl (T.g_ "_law_draw") (T.k_ "_law_draw") (k__law_draw (j := 2) T hr) (pa_cons (pv 0) (pa_cons (pv 1) pa_nil)) pk_nil)) (pa_cons (pe_g (ks := []) rfl (T.g_ "_law_pick") (T.k_ "_law_pick") (k__law_pick (j := 2) T hr) (pa_cons (pv 0) (pa_cons (pe_lst (pa_cons (pe_lst (pa_cons pe_str (pa_cons pe_str (pa_cons pe_str pa_nil)))) (pa_cons (pe_lst (pa_cons pe_str (pa_cons pe_str (pa_cons pe_str (pa_cons pe_str pa_nil))))) (pa_cons (pe_lst (pa_cons pe_str (pa_cons pe_str pa_nil))) (pa_cons (pe_lst (pa_cons pe_str (pa_cons pe_str pa_nil))) pa_nil))))) pa_nil)) pk_nil) pa_nil)) rfl)
      (pss_cons (ps_set (i := 4) nd rfl (Or.inl rfl) (pe_lst pa_nil))
      (pss_cons (ps_for PassesOwn.never rfl (pi_range1 rfl (T.f_ "range") (pa_cons (pe_g (ks := []) rfl (T.g_ "_law_draw") (T.k_ "_law_draw") (k__law_draw (j := 2) T hr) (pa_cons (pv 0) (pa_cons (pe_op (x_add T) (pe_op o_mul pe_int (pv 2)) pe_int) pa_nil)) pk_nil) pa_nil)) (pg_name (i := 5) nd rfl (Or.inl rfl)) (pss_cons (ps_set (i := 6) nd rfl (Or.inl rfl) (pe_tup (pa_cons (pe_g (ks := []) rfl (T.g_ "_law_draw") (T.k_ "_law_draw") (k__law_draw (j := 2) T hr) (pa_cons (pv 0) (pa_cons (pv 2) pa_nil)) pk_nil) (pa_cons (pe_g (ks := []) rfl (T.g_ "_law_pick") (T.k_ "_law_pick") (k__law_pick (j := 2) T hr) (pa_cons (pv 0) (pa_cons (pv 3) pa_nil)) pk_nil) (pa_cons (pe_g (ks := []) rfl (T.g_ "_law_draw") (T.k_ "_law_draw") (k__law_draw (j := 2) T hr) (pa_cons (pv 0) (pa_cons (pv 2) pa_nil)) pk_nil) pa_nil)))))
      (pss_one (ps_if (pt_cmpR (x_notIn (j := 2) T hr) (pv 6) (pv 4) (by rfl)) (pss_one (ps_expr (pe_bm PySem.F.plainAttrs_list PySem.F.slot_list_append PySem.F.type_list_append mt_append (pv 4) (pa_cons (pv 6) pa_nil)))) pss_nil))))
      (pss_cons (ps_setLc (i := 7) (own := [("at", 8)]) (g := gName 8) rfl nd rfl rfl (sw_true rfl rfl rfl (by decide +kernel)) (pi_range1 rfl (T.f_ "range") (pa_cons (pv 2) pa_nil)) (blkOk_by (N := N__law_net) (sc := defScope s__law_net) (by decide +kernel)) (fun _ _ _ _ _ => pg_name (i := 8) nd rfl (Or.inl rfl)) (fun _ _ _ _ _ => (pts_one (pt_cmpR (x_eq (j := 2) T hr) (pe_g (ks := []) rfl (T.g_ "_law_draw") (T.k_ "_law_draw") (k__law_draw (j := 2) T hr) (pa_cons (pv 0) (pa_cons pe_int pa_nil)) pk_nil) pe_int (nomark _)))) (fun _ _ _ _ _ => (pv 8)))
      (pss_one (ps_ret (pe_disp (pps_cons pe_str (pv 2) (pps_cons pe_str (pv 4) (pps_cons pe_str (pe_ifExp (pt_cmpR (x_ne (j := 2) T hr) (pv 7) (pe_lst pa_nil) (nomark _)) (pv 7) (pe_lst (pa_cons (pe_g (ks := []) rfl (T.g_ "_law_draw") (T.k_ "_law_draw") (k__law_draw (j := 2) T hr) (pa_cons (pv 0) (pa_cons (pv 2) pa_nil)) pk_nil) pa_nil))) pps_nil))) rfl rfl (by decide) (by decide)))))))), SpF.body (N := N__law_net) (ar := 2) h
    (ss_seq (ss_par (sv_sd (sd_op os_add sd_int (sd_sv (sv_callC arrC_id (sa_cons sd_var sa_nil) sa_nil)))) (sv_sd (sd_sv (sv_callC arrC_id (sa_cons (sd_fz (so_lst (sa_cons (sd_fz (so_lst (sa_cons sd_str (sa_cons sd_str (sa_cons sd_str sa_nil))))) (sa_cons (sd_fz (so_lst (sa_cons sd_str (sa_cons sd_str (sa_cons sd_str (sa_cons sd_str sa_nil)))))) (sa_cons (sd_fz (so_lst (sa_cons sd_str (sa_cons sd_str sa_nil)))) (sa_cons (sd_fz (so_lst (sa_cons sd_str (sa_cons sd_str sa_nil)))) sa_nil)))))) sa_nil) sa_nil))))
      (ss_seq (ss_asgV (sv_so (so_lst sa_nil)))
      (ss_seq (ss_for (si_rng (sa_cons (sd_sv (sv_callC arrC_id (sa_cons (sd_op os_add (sd_op os_mul sd_int sd_var) sd_int) sa_nil) sa_nil)) sa_nil)) sg_name (ss_seq (ss_asg (sd_tup (sa_cons (sd_sv (sv_callC arrC_id (sa_cons sd_var sa_nil) sa_nil)) (sa_cons (sd_sv (sv_callC arrC_id (sa_cons sd_var sa_nil) sa_nil)) (sa_cons (sd_sv (sv_callC arrC_id (sa_cons sd_var sa_nil) sa_nil)) sa_nil)))) sg_name)
      (ss_if (st_lo (st_test (sd_op os_notIn sd_var sd_var))) (ss_drop (sd_app sd_var)) ss_next)))
      (ss_seq (ss_asg (sd_fz (so_lc (si_rng (sa_cons sd_var sa_nil)) sg_name (st_test (sd_op os_eq (sd_sv (sv_callC arrC_id (sa_cons sd_int sa_nil) sa_nil)) sd_int)) sd_var (by decide))) sg_name)
      (ss_retD (sd_fz (so_disp (sp_cons sd_str sd_var (sp_cons sd_str sd_var (sp_cons sd_str (sd_if (st_test (sd_op os_ne sd_var (sd_fz (so_lst sa_nil)))) sd_var (sd_fz (so_lst (sa_cons (sd_sv (sv_callC arrC_id (sa_cons sd_var sa_nil) sa_nil)) sa_nil)))) sp_nil))))))))))⟩
theorem k__law_net {X : Cx} {K : PySem.W.Frag} {mg : PySem.Str → Option Value} {j : Nat} (T : Tx K mg) (hr : RoomG j X.A) (hj : 3 ≤ j := by decide) (hX : AtX X K mg := by exact ⟨rfl, rfl⟩) : CanG X (.ref (He.ga K "_law_net")) [] (rFn 2 0 (SpF K (F__law_net (cK K))) idv E0) := by
  obtain ⟨rfl, rfl⟩ := hX
  obtain ⟨fd, F⟩ := T.c.def_ 42 (d := d__law_net) rfl
  exact can_fn (f__law_net T F) (hr.le hj) (kb_plain F 2 [] (fun us _ => us) (fun a _ => a) fun _ _ _ _ _ _ us ws h1 h2 => match us, h1, ws, h2 with | [_, _], _, [], _ => rfl) pass0
theorem f__law_made {P : Program} {w : World} {K : PySem.W.Frag} {mg : PySem.Str → Option Value} {base : Heap} (T : Tx K mg) {fd : FuncData} (F : FunD K d__law_made.name d__law_made.qual d__law_made.params d__law_made.body d__law_made.scope (d__law_made.dvs K) (d__law_made.kws K) (d__law_made.at_ K) fd) : FnG P w K mg base CX0 7 (d__law_made.at_ K) fd ["net"] (SpF K (F__law_made (cK K))) := by
  have nd := sc__law_made.nd
  exact fn_g F sc__law_made SpF.len fun cdv A fr s H vs Q E hr h => ⟨_, PSs.nox (pss_one (ps_ret (pe_g (ks := []) rfl (T.g_ "Machine") (T.k_ "Machine") (mk_Machine_3 (j := 6) T hr) (pa_cons (pe_dget (x_un (j := 6) T hr) (pv 0) pe_str fun _ _ => rfl) (pa_cons (pe_dget (x_un (j := 6) T hr) (pv 0) pe_str fun _ _ => rfl) (pa_cons (pe_dget (x_un (j := 6) T hr) (pv 0) pe_str fun _ _ => rfl) pa_nil))) pk_nil))), SpF.body (N := N__law_made) (ar := 1) h
    (ss_retD (sd_fz (so_make arrC_id (sa_cons (sd_dget sd_var sd_str) (sa_cons (sd_dget sd_var sd_str) (sa_cons (sd_dget sd_var sd_str) sa_nil))) sa_nil)))⟩
theorem k__law_made {X : Cx} {K : PySem.W.Frag} {mg : PySem.Str → Option Value} {j : Nat} (T : Tx K mg) (hr : RoomG j X.A) (hj : 7 ≤ j := by decide) (hX : AtX X K mg := by exact ⟨rfl, rfl⟩) : CanG X (.ref (He.ga K "_law_made")) [] (rFn 1 0 (SpF K (F__law_made (cK K))) idv E0) := by
  obtain ⟨rfl, rfl⟩ := hX
  obtain ⟨fd, F⟩ := T.c.def_ 43 (d := d__law_made) rfl
  exact can_fn (f__law_made T F) (hr.le hj) (kb_plain F 1 [] (fun us _ => us) (fun a _ => a) fun _ _ _ _ _ _ us ws h1 h2 => match us, h1, ws, h2 with | [_], _, [], _ => rfl) pass0
theorem f__law_signs {P : Program} {w : World} {K : PySem.W.Frag} {mg : PySem.Str → Option Value} {base : Heap} (T : Tx K mg) {fd : FuncData} (F : FunD K d__law_signs.name d__law_signs.qual d__law_signs.params d__law_signs.body d__law_signs.scope (d__law_signs.dvs K) (d__law_signs.kws K) (d__law_signs.at_ K) fd) : FnG P w K mg base CX0 1 (d__law_signs.at_ K) fd ["net"] (SpF K (F__law_signs (cK K))) := by
  have nd := sc__law_signs.nd
  exact fn_g F sc__law_signs SpF.len fun cdv A fr s H vs Q E hr h => ⟨_, PSs.nox (pss_one (ps_ret (x_join T pe_str (x_sset (j := 0) T hr (pe_lc (own := [("near", 1), ("sign", 2), ("far", 3)]) (g := gTup K 3 (gCons (gName 1) (gCons (gName 2) (gCons (gName 3) gNil)))) (tt := tYes) rfl nd (x_walk T (pe_dget (x_un (j := 0) T hr) (pv 0) pe_str fun _ _ => rfl)) (blkOk_by (N := N__law_signs) (sc := defScope s__law_signs) (by decide +kernel)) (fun _ _ _ _ _ => x_gtup T (n := 3) (pgs_cons (pg_name (i := 1) nd rfl (Or.inl rfl)) (pgs_cons (pg_name (i := 2) nd rfl (Or.inl rfl)) (pgs_cons (pg_name (i := 3) nd rfl (Or.inl rfl)) pgs_nil)))) (fun _ _ _ _ _ => pts_nil) (fun _ _ _ _ _ => (pv 2))))))), SpF.body (N := N__law_signs) (ar := 1) h
    (ss_retD (sd_join sd_str (sd_fz (so_sset (sd_fz (so_lc (si_wk (sd_dget sd_var sd_str)) (sg_tup (sg_cons sg_name (sg_cons sg_name (sg_cons sg_name sg_nil)))) st_yes sd_var (by decide)))))))⟩
theorem k__law_signs {X : Cx} {K : PySem.W.Frag} {mg : PySem.Str → Option Value} {j : Nat} (T : Tx K mg) (hr : RoomG j X.A) (hj : 1 ≤ j := by decide) (hX : AtX X K mg := by exact ⟨rfl, rfl⟩) : CanG X (.ref (He.ga K "_law_signs")) [] (rFn 1 0 (SpF K (F__law_signs (cK K))) idv E0) := by
  obtain ⟨rfl, rfl⟩ := hX
  obtain ⟨fd, F⟩ := T.c.def_ 44 (d := d__law_signs) rfl
  exact can_fn (f__law_signs T F) (hr.le hj) (kb_plain F 1 [] (fun us _ => us) (fun a _ => a) fun _ _ _ _ _ _ us ws h1 h2 => match us, h1, ws, h2 with | [_], _, [], _ => rfl) pass0
theorem f__law_ears {P : Program} {w : World} {K : PySem.W.Frag} {mg : PySem.Str → Option Value} {base : Heap} (T : Tx K mg) {fd : FuncData} (F : FunD K d__law_ears.name d__law_ears.qual d__law_ears.params d__law_ears.body d__law_ears.scope (d__law_ears.dvs K) (d__law_ears.kws K) (d__law_ears.at_ K) fd) : FnG P w K mg base CX0 2 (d__law_ears.at_ K) fd ["pot", "net"] (SpF K (F__law_ears (cK K))) := by
  have nd := sc__law_ears.nd
  exact fn_g F sc__law_ears SpF.len fun cdv A fr s H vs Q E hr h => ⟨_, PSs.nox (pss_one (ps_ret (x_join T pe_str (pe_lc (own := [("sign", 2)]) (g := gName 2) rfl nd (x_walk T (pe_g (ks := []) rfl (T.g_ "_law_signs") (T.k_ "_law_signs") (k__law_signs (j := 1) T hr) (pa_cons (pv 1) pa_nil) pk_nil)) (blkOk_by (N := N__law_ears) (sc := defScope s__law_ears) (by decide +kernel)) (fun _ _ _ _ _ => pg_name (i := 2) nd rfl (Or.inl rfl)) (fun _ _ _ _ _ => (pts_one (pt_cmpR o_gt (pe_g (ks := []) rfl (T.g_ "_law_draw") (T.k_ "_law_draw") (k__law_draw (j := 1) T hr) (pa_cons (pv 0) (pa_cons pe_int pa_nil)) pk_nil) pe_int (nomark _)))) (fun _ _ _ _ _ => (pv 2)))))), SpF.body (N := N__law_ears) (ar := 2) h
    (ss_retD (sd_join sd_str (sd_fz (so_lc (si_wk (sd_sv (sv_call arr_id (sa_cons sd_var sa_nil) sa_nil))) sg_name (st_test (sd_op os_gt (sd_sv (sv_callC arrC_id (sa_cons sd_int sa_nil) sa_nil)) sd_int)) sd_var (by decide)))))⟩
theorem k__law_ears {X : Cx} {K : PySem.W.Frag} {mg : PySem.Str → Option Value} {j : Nat} (T : Tx K mg) (hr : RoomG j X.A) (hj : 2 ≤ j := by decide) (hX : AtX X K mg := by exact ⟨rfl, rfl⟩) : CanG X (.ref (He.ga K "_law_ears")) [] (rFn 2 0 (SpF K (F__law_ears (cK K))) idv E0) := by
  obtain ⟨rfl, rfl⟩ := hX
  obtain ⟨fd, F⟩ := T.c.def_ 45 (d := d__law_ears) rfl
  exact can_fn (f__law_ears T F) (hr.le hj) (kb_plain F 2 [] (fun us _ => us) (fun a _ => a) fun _ _ _ _ _ _ us ws h1 h2 => match us, h1, ws, h2 with | [_, _], _, [], _ => rfl) pass0
theorem f__law_pairs {P : Program} {w : World} {K : PySem.W.Frag} {mg : PySem.Str → Option Value} {base : Heap} (T : Tx K mg) {fd : FuncData} (F : FunD K d__law_pairs.name d__law_pairs.qual d__law_pairs.params d__law_pairs.body d__law_pairs.scope (d__law_pairs.dvs K) (d__law_pairs.kws K) (d__law_pairs.at_ K) fd) : FnG P w K mg base CX0 1 (d__law_pairs.at_ K) fd ["net", "ears", "phrase"] (SpF K (F__law_pairs (cK K))) := by
  have nd := sc__law_pairs.nd
  exact fn_g F sc__law_pairs SpF.len fun cdv A fr s H vs Q E hr h => ⟨_, PSs.nox (pss_cons (ps_par (i := 3) (j := 4) rfl nd rfl rfl (by decide) rfl rfl (pa_cons (pe_lc (own := [("place_now", 11)]) (g := gName 11) (tt := tYes) rfl nd (x_walk T (pe_dget (x_un (j := 0) T hr) (pv 0) pe_str fun _ _ => rfl)) (blkOk_by (N := N__law_pairs) (sc := defScope s__law_pairs) (by decide +kernel)) (fun _ _ _ _ _ => pg_name (i := 11) nd rfl (Or.inl rfl)) (fun _ _ _ _ _ => pts_nil) (fun _ _ _ _ _ => (pe_tup (pa_cons (pv 11) (pa_cons pe_int pa_nil))))) (pa_cons pe_int pa_nil)) rfl)
      (pss_cons (ps_while PassesOwn.never (pt_cmpR o_ltA (pv 4) (pe_callB (x_len T) rfl (T.f_ "len") PySem.boot_len (pa_cons (pv 3) pa_nil)) (nomark _)) (pss_cons (ps_asg (pe_ix (x_ix T) (pv 3) (pv 4) fun _ _ => rfl) (x_gtup T (n := 2) (pgs_cons (pg_name (i := 5) nd rfl (Or.inl rfl)) (pgs_cons (pg_name (i := 6) nd rfl (Or.inl rfl)) pgs_nil))))
      (pss_cons (ps_for PassesOwn.never rfl (x_walk T (pe_dget (x_un (j := 0) T hr) (pv 0) pe_str fun _ _ => rfl)) (x_gtup T (n := 3) (pgs_cons (pg_name (i := 7) nd rfl (Or.inl rfl)) (pgs_cons (pg_name (i := 8) nd rfl (Or.inl rfl)) (pgs_cons (pg_name (i := 9) nd rfl (Or.inl rfl)) pgs_nil)))) (pss_cons (ps_set (i := 10) nd rfl (Or.inl rfl) pe_non)
      (pss_cons (ps_if (PW.pt (pw_and (pt_cmpR (x_eq (j := 0) T hr) (pv 7) (pv 5) (nomark _)) (pw_and1 (PW.pt (pw_or (pt_cmpR (x_eq (j := 0) T hr) (pv 8) pe_str (nomark _)) (pw_or1 (pt_cmpR (x_notIn (j := 0) T hr) (pv 8) (pv 1) (by rfl)))))))) (pss_one (ps_set (i := 10) nd rfl (Or.inl rfl) (pe_tup (pa_cons (pv 9) (pa_cons (pv 6) pa_nil))))) (pss_one (ps_if (PW.pt (pw_and (pt_cmpR (x_eq (j := 0) T hr) (pv 7) (pv 5) (nomark _)) (pw_and (pt_cmpR o_ltA (pv 6) (pe_callB (x_len T) rfl (T.f_ "len") PySem.boot_len (pa_cons (pv 2) pa_nil)) (nomark _)) (pw_and1 (pt_cmpR (x_eq (j := 0) T hr) (pe_ix (x_ix T) (pv 2) (pv 6) fun _ _ => rfl) (pv 8) (nomark _)))))) (pss_one (ps_set (i := 10) nd rfl (Or.inl rfl) (pe_tup (pa_cons (pv 9) (pa_cons (pe_op (x_add T) (pv 6) pe_int) pa_nil))))) pss_nil)))
      (pss_one (ps_if (PW.pt (pw_and (pt_cmpR o_isNot (pv 10) pe_non (nomark _)) (pw_and1 (pt_cmpR (x_notIn (j := 0) T hr) (pv 10) (pv 3) (by rfl))))) (pss_one (ps_expr (pe_bm PySem.F.plainAttrs_list PySem.F.slot_list_append PySem.F.type_list_append mt_append (pv 3) (pa_cons (pv 10) pa_nil)))) pss_nil)))))
      (pss_one (ps_set (i := 4) nd rfl (Or.inl rfl) (pe_op (x_add T) (pv 4) pe_int))))))
      (pss_one (ps_ret (pv 3))))), SpF.body (N := N__law_pairs) (ar := 3) h
    (ss_seq (ss_par (sv_so (so_lc (si_wk (sd_dget sd_var sd_str)) sg_name st_yes (sd_tup (sa_cons sd_var (sa_cons sd_int sa_nil))) (by decide))) (sv_sd sd_int))
      (ss_seq (ss_while (st_lo (st_test (sd_op os_lt sd_var (sd_cb cs_len (sa_cons sd_var sa_nil))))) (ss_seq (ss_asg (sd_ixV os_ix sd_var) (sg_tup (sg_cons sg_name (sg_cons sg_name sg_nil))))
      (ss_seq (ss_for (si_wk (sd_dget sd_var sd_str)) (sg_tup (sg_cons sg_name (sg_cons sg_name (sg_cons sg_name sg_nil)))) (ss_seq (ss_asg sd_non sg_name)
      (ss_seq (ss_if (st_and (st_test (sd_op os_eq sd_var sd_var)) (st_or (st_test (sd_op os_eq sd_var sd_str)) (st_test (sd_op os_notIn sd_var sd_var)))) (ss_asg (sd_tup (sa_cons sd_var (sa_cons sd_var sa_nil))) sg_name) (ss_if (st_and (st_test (sd_op os_eq sd_var sd_var)) (st_and (st_test (sd_op os_lt sd_var (sd_cb cs_len (sa_cons sd_var sa_nil)))) (st_test (sd_op os_eq (sd_op os_ix sd_var sd_var) sd_var)))) (ss_asg (sd_tup (sa_cons sd_var (sa_cons (sd_op os_add sd_var sd_int) sa_nil))) sg_name) ss_next))
      (ss_if (st_lo (st_and (st_test (sd_op os_isNot sd_var sd_non)) (st_test (sd_op os_notIn sd_var sd_var)))) (ss_drop (sd_app sd_var)) ss_next))))
      (ss_asg (sd_op os_add sd_var sd_int) sg_name))))
      (ss_retD sd_var)))⟩
theorem k__law_pairs {X : Cx} {K : PySem.W.Frag} {mg : PySem.Str → Option Value} {j : Nat} (T : Tx K mg) (hr : RoomG j X.A) (hj : 1 ≤ j := by decide) (hX : AtX X K mg := by exact ⟨rfl, rfl⟩) : CanG X (.ref (He.ga K "_law_pairs")) [] (rFn 3 0 (SpF K (F__law_pairs (cK K))) idv E0) := by
  obtain ⟨rfl, rfl⟩ := hX
  obtain ⟨fd, F⟩ := T.c.def_ 46 (d := d__law_pairs) rfl
  exact can_fn (f__law_pairs T F) (hr.le hj) (kb_plain F 3 [] (fun us _ => us) (fun a _ => a) fun _ _ _ _ _ _ us ws h1 h2 => match us, h1, ws, h2 with | [_, _, _], _, [], _ => rfl) pass0
theorem f__law_due {P : Program} {w : World} {K : PySem.W.Frag} {mg : PySem.Str → Option Value} {base : Heap} (T : Tx K mg) {fd : FuncData} (F : FunD K d__law_due.name d__law_due.qual d__law_due.params d__law_due.body d__law_due.scope (d__law_due.dvs K) (d__law_due.kws K) (d__law_due.at_ K) fd) : FnG P w K mg base CX0 2 (d__law_due.at_ K) fd ["net", "ears", "phrase"] (SpF K (F__law_due (cK K))) := by
  have nd := sc__law_due.nd
  exact fn_g F sc__law_due SpF.len fun cdv A fr s H vs Q E hr h => ⟨_, PSs.nox (pss_cons (ps_set (i := 3) nd rfl (Or.inl rfl) (pe_callB (x_sort (j := 1) T hr) rfl (T.f_ "sorted") PyProof.Rows.boot_sorted (pa_cons (pe_lc (own := [("here", 4), ("many", 5)]) (g := gTup K 2 (gCons (gName 4) (gCons (gName 5) gNil))) rfl nd (x_walk T (pe_g (ks := []) rfl (T.g_ "_law_pairs") (T.k_ "_law_pairs") (k__law_pairs (j := 1) T hr) (pa_cons (pv 0) (pa_cons (pv 1) (pa_cons (pv 2) pa_nil))) pk_nil)) (blkOk_by (N := N__law_due) (sc := defScope s__law_due) (by decide +kernel)) (fun _ _ _ _ _ => x_gtup T (n := 2) (pgs_cons (pg_name (i := 4) nd rfl (Or.inl rfl)) (pgs_cons (pg_name (i := 5) nd rfl (Or.inl rfl)) pgs_nil))) (fun _ _ _ _ _ => (pts_one (pt_cmpR (x_eq (j := 1) T hr) (pv 5) (pe_callB (x_len T) rfl (T.f_ "len") PySem.boot_len (pa_cons (pv 2) pa_nil)) (nomark _)))) (fun _ _ _ _ _ => (pv 4))) pa_nil)))
      (pss_one (ps_ret (pe_ifExp (pt_cmpR (x_ne (j := 1) T hr) (pv 3) (pe_lst pa_nil) (nomark _)) (pe_callTy (x_tup T) rfl (T.f_ "tuple") PyProof.Rows.boot_tuple (pa_cons (pv 3) pa_nil)) pe_non)))), SpF.body (N := N__law_due) (ar := 3) h
    (ss_seq (ss_asg (sd_fz (so_cb cn_sorted (sa_cons (sd_fz (so_lc (si_wk (sd_sv (sv_call arr_id (sa_cons sd_var (sa_cons sd_var (sa_cons sd_var sa_nil))) sa_nil))) (sg_tup (sg_cons sg_name (sg_cons sg_name sg_nil))) (st_test (sd_op os_eq sd_var (sd_cb cs_len (sa_cons sd_var sa_nil)))) sd_var (by decide))) sa_nil))) sg_name)
      (ss_retD (sd_if (st_test (sd_op os_ne sd_var (sd_fz (so_lst sa_nil)))) (sd_cb cs_tuple (sa_cons sd_var sa_nil)) sd_non)))⟩
theorem k__law_due {X : Cx} {K : PySem.W.Frag} {mg : PySem.Str → Option Value} {j : Nat} (T : Tx K mg) (hr : RoomG j X.A) (hj : 2 ≤ j := by decide) (hX : AtX X K mg := by exact ⟨rfl, rfl⟩) : CanG X (.ref (He.ga K "_law_due")) [] (rFn 3 0 (SpF K (F__law_due (cK K))) idv E0) := by
  obtain ⟨rfl, rfl⟩ := hX
  obtain ⟨fd, F⟩ := T.c.def_ 47 (d := d__law_due) rfl
  exact can_fn (f__law_due T F) (hr.le hj) (kb_plain F 3 [] (fun us _ => us) (fun a _ => a) fun _ _ _ _ _ _ us ws h1 h2 => match us, h1, ws, h2 with | [_, _, _], _, [], _ => rfl) pass0
theorem f__law_is_for {P : Program} {w : World} {K : PySem.W.Frag} {mg : PySem.Str → Option Value} {base : Heap} (T : Tx K mg) {fd : FuncData} (F : FunD K d__law_is_for.name d__law_is_for.qual d__law_is_for.params d__law_is_for.body d__law_is_for.scope (d__law_is_for.dvs K) (d__law_is_for.kws K) (d__law_is_for.at_ K) fd) : FnG P w K mg base CX0 1 (d__law_is_for.at_ K) fd ["net", "ears", "phrase", "goal", "told"] (SpF K (F__law_is_for (cK K))) := by
  have nd := sc__law_is_for.nd
  exact fn_g F sc__law_is_for SpF.len fun cdv A fr s H vs Q E hr h => ⟨_, PSs.nox (pss_cons (ps_if (PW.pt (pw_or (pt_not (pt_val (pe_callB (x_isi T) rfl (T.f_ "isinstance") PyProof.Rows.boot_isinstance (pa_cons (pv 4) (pa_cons (pe_bltn (v := .ty "tuple") rfl (T.f_ "tuple") PyProof.Rows.boot_tuple rfl) pa_nil))))) (pw_or (pt_cmpR (x_ne (j := 0) T hr) (pe_callB (x_len T) rfl (T.f_ "len") PySem.boot_len (pa_cons (pv 4) pa_nil)) pe_int (nomark _)) (pw_or (pt_not (pt_val (pe_callB (x_isi T) rfl (T.f_ "isinstance") PyProof.Rows.boot_isinstance (pa_cons (pe_ix (x_ix T) (pv 4) pe_int fun _ _ => rfl) (pa_cons (pe_bltn (v := .ty "list") rfl (T.f_ "list") PyProof.Rows.boot_list rfl) pa_nil))))) (pw_or1 (pt_cmpR (x_notIn (j := 0) T hr) (pe_ix (x_ix T) (pv 4) pe_int fun _ _ => rfl) (pe_dget (x_un (j := 0) T hr) (pv 0) pe_str fun _ _ => rfl) (by rfl))))))) (pss_one (ps_ret pe_bl)) pss_nil)
      (pss_cons (ps_par (i := 5) (j := 6) rfl nd rfl rfl (by decide) rfl rfl (pa_cons (pe_ix (x_ix T) (pv 4) pe_int fun _ _ => rfl) (pa_cons pe_str pa_nil)) rfl)
      (pss_cons (ps_for PassesOwn.never rfl (x_walk T (pe_ix (x_ix T) (pv 4) pe_int fun _ _ => rfl)) (pg_name (i := 7) nd rfl (Or.inl rfl)) (pss_cons (ps_if (PW.pt (pw_or (pt_cmpR (x_notIn (j := 0) T hr) (pv 7) (pe_dget (x_un (j := 0) T hr) (pv 0) pe_str fun _ _ => rfl) (by rfl)) (pw_or1 (pt_cmpR (x_ne (j := 0) T hr) (pe_ix (x_ix T) (pv 7) pe_int fun _ _ => rfl) (pv 5) (nomark _))))) (pss_one (ps_ret pe_bl)) pss_nil)
      (pss_cons (ps_set (i := 5) nd rfl (Or.inl rfl) (pe_ix (x_ix T) (pv 7) pe_int fun _ _ => rfl))
      (pss_one (ps_set (i := 6) nd rfl (Or.inl rfl) (pe_op (x_add T) (pv 6) (pe_ifExp (pt_cmpR (x_in (j := 0) T hr) (pe_ix (x_ix T) (pv 7) pe_int fun _ _ => rfl) (pv 1) (by rfl)) (pe_ix (x_ix T) (pv 7) pe_int fun _ _ => rfl) pe_str)))))))
      (pss_one (ps_ret (pe_and (pe_cmpR (x_eq (j := 0) T hr) (pv 5) (pv 3) (nomark _)) (pe_one (pe_cmpR (x_eq (j := 0) T hr) (pv 6) (pv 2) (nomark _))))))))), SpF.body (N := N__law_is_for) (ar := 5) h
    (ss_seq (ss_if (st_or (st_not (st_B (sd_cb cs_isi (sa_cons sd_var (sa_cons sd_ty sa_nil))))) (st_or (st_test (sd_op os_ne (sd_cb cs_len (sa_cons sd_var sa_nil)) sd_int)) (st_or (st_not (st_B (sd_cb cs_isi (sa_cons (sd_op os_ix sd_var sd_int) (sa_cons sd_ty sa_nil))))) (st_test (sd_op os_notIn (sd_op os_ix sd_var sd_int) (sd_dget sd_var sd_str)))))) (ss_retD sd_bl) ss_next)
      (ss_seq (ss_par (sv_sd (sd_op os_ix sd_var sd_int)) (sv_sd sd_str))
      (ss_seq (ss_for (si_wk (sd_op os_ix sd_var sd_int)) sg_name (ss_seq (ss_if (st_or (st_test (sd_op os_notIn sd_var (sd_dget sd_var sd_str))) (st_test (sd_op os_ne (sd_op os_ix sd_var sd_int) sd_var))) (ss_retD sd_bl) ss_next)
      (ss_seq (ss_asg (sd_op os_ix sd_var sd_int) sg_name)
      (ss_asg (sd_op os_add sd_var (sd_if (st_test (sd_op os_in (sd_op os_ix sd_var sd_int) sd_var)) (sd_op os_ix sd_var sd_int) sd_str)) sg_name))))
      (ss_retD (sd_andV (sd_op os_eq sd_var sd_var) (sd_op os_eq sd_var sd_var))))))⟩
theorem k__law_is_for {X : Cx} {K : PySem.W.Frag} {mg : PySem.Str → Option Value} {j : Nat} (T : Tx K mg) (hr : RoomG j X.A) (hj : 1 ≤ j := by decide) (hX : AtX X K mg := by exact ⟨rfl, rfl⟩) : CanG X (.ref (He.ga K "_law_is_for")) [] (rFn 5 0 (SpF K (F__law_is_for (cK K))) idv E0) := by
  obtain ⟨rfl, rfl⟩ := hX
  obtain ⟨fd, F⟩ := T.c.def_ 48 (d := d__law_is_for) rfl
  exact can_fn (f__law_is_for T F) (hr.le hj) (kb_plain F 5 [] (fun us _ => us) (fun a _ => a) fun _ _ _ _ _ _ us ws h1 h2 => match us, h1, ws, h2 with | [_, _, _, _, _], _, [], _ => rfl) pass0
theorem f__law_run_right {P : Program} {w : World} {K : PySem.W.Frag} {mg : PySem.Str → Option Value} {base : Heap} (T : Tx K mg) {fd : FuncData} (F : FunD K d__law_run_right.name d__law_run_right.qual d__law_run_right.params d__law_run_right.body d__law_run_right.scope (d__law_run_right.dvs K) (d__law_run_right.kws K) (d__law_run_right.at_ K) fd) : FnG P w K mg base CX0 7 (d__law_run_right.at_ K) fd ["made", "net", "ears", "phrase", "goal", "page"] (SpF K (F__law_run_right (cK K))) := by
  have nd := sc__law_run_right.nd
  exact fn_g F sc__law_run_right SpF.len fun cdv A fr s H vs Q E hr h => ⟨_, PSs.nox (pss_cons (ps_set (i := 6) nd rfl (Or.inl rfl) (pe_g (ks := []) rfl (T.g_ "run_for") (T.k_ "run_for") (k_run_for (j := 6) T hr) (pa_cons (pv 0) (pa_cons (pv 2) (pa_cons (pv 3) (pa_cons (pv 4) pa_nil)))) pk_nil))
      (pss_cons (ps_if (PW.pt (pw_or (pt_cmpR o_is (pv 5) pe_non (nomark _)) (pw_or1 (pt_cmpR (x_notIn (j := 6) T hr) (pv 4) (pv 5) (by rfl))))) (pss_one (ps_ret (pe_and (pe_cmpR o_is (pv 6) pe_non (nomark _)) (pe_one (pe_cmpR o_is (pe_g0 (ks := ["place", "word", "heard", "machine"]) rfl (T.g_ "run_for") (T.k_ "run_for") (k_run_for_place_word_heard_machine (j := 6) T hr) (pk_cons (pv 4) (pk_cons (pv 3) (pk_cons (pv 2) (pk_cons (pv 0) pk_nil))))) pe_non (nomark _)))))) pss_nil)
      (pss_cons (ps_if (PW.pt (pw_or (pt_not (pt_val (pe_g (ks := []) rfl (T.g_ "_law_is_for") (T.k_ "_law_is_for") (k__law_is_for (j := 6) T hr) (pa_cons (pv 1) (pa_cons (pv 2) (pa_cons (pv 3) (pa_cons (pv 4) (pa_cons (pv 6) pa_nil))))) pk_nil))) (pw_or1 (pt_cmpR o_isNot (pe_g (ks := []) rfl (T.g_ "is_run") (T.k_ "is_run") (k_is_run (j := 6) T hr) (pa_cons (pv 0) (pa_cons (pv 6) pa_nil)) pk_nil) pe_bl (nomark _))))) (pss_one (ps_ret pe_bl)) pss_nil)
      (pss_cons (ps_if (pt_cmpR (x_ne (j := 6) T hr) (pe_lst (pa_cons (pe_g (ks := []) rfl (T.g_ "heard_of") (T.k_ "heard_of") (k_heard_of (j := 6) T hr) (pa_cons (pv 0) (pa_cons (pv 2) (pa_cons (pv 6) pa_nil))) pk_nil) (pa_cons (pe_g (ks := []) rfl (T.g_ "stop_of") (T.k_ "stop_of") (k_stop_of (j := 6) T hr) (pa_cons (pv 0) (pa_cons (pv 6) pa_nil)) pk_nil) pa_nil))) (pe_lst (pa_cons (pv 3) (pa_cons (pv 4) pa_nil))) (nomark _)) (pss_one (ps_ret pe_bl)) pss_nil)
      (pss_cons (ps_expr (pe_bm PySem.F.plainAttrs_list PySem.F.slot_list_append PySem.F.type_list_append mt_append (pe_ix (x_ix T) (pv 6) pe_int fun _ _ => rfl) (pa_cons pe_non pa_nil)))
      (pss_cons (ps_set (i := 7) nd rfl (Or.inl rfl) (pe_g0 (ks := ["place", "word", "heard", "machine"]) rfl (T.g_ "run_for") (T.k_ "run_for") (k_run_for_place_word_heard_machine (j := 6) T hr) (pk_cons (pv 4) (pk_cons (pv 3) (pk_cons (pv 2) (pk_cons (pv 0) pk_nil))))))
      (pss_one (ps_ret (pe_g (ks := []) rfl (T.g_ "_law_is_for") (T.k_ "_law_is_for") (k__law_is_for (j := 6) T hr) (pa_cons (pv 1) (pa_cons (pv 2) (pa_cons (pv 3) (pa_cons (pv 4) (pa_cons (pv 7) pa_nil))))) pk_nil))))))))), SpF.body (N := N__law_run_right) (ar := 6) h
    (ss_told (sv_call arr_id (sa_cons sd_var (sa_cons sd_var (sa_cons sd_var (sa_cons sd_var sa_nil)))) sa_nil) (su_guard (st_or (st_test (sd_op os_is sd_var sd_non)) (st_test (sd_op os_notIn sd_var sd_var))) (sd_andV (sd_op os_is sd_var sd_non) (sd_op os_is (sd_sv (sv_call arr_gP sa_nil (sa_cons sd_var (sa_cons sd_var (sa_cons sd_var (sa_cons sd_var sa_nil)))))) sd_non))
      (su_guard (st_or (st_not (st_B (sd_sv (sv_call arr_id (sa_cons sd_var (sa_cons sd_var (sa_cons sd_var (sa_cons sd_var (sa_cons sd_var sa_nil))))) sa_nil)))) (st_test (sd_op os_isNot (sd_sv (sv_call arr_id (sa_cons sd_var (sa_cons sd_var sa_nil)) sa_nil)) sd_bl))) sd_bl
      (su_guard (st_test (sd_op os_ne (sd_fz (so_lst (sa_cons (sd_sv (sv_call arr_id (sa_cons sd_var (sa_cons sd_var (sa_cons sd_var sa_nil))) sa_nil)) (sa_cons (sd_sv (sv_call arr_id (sa_cons sd_var (sa_cons sd_var sa_nil)) sa_nil)) sa_nil)))) (sd_fz (so_lst (sa_cons sd_var (sa_cons sd_var sa_nil)))))) sd_bl
      (su_app sd_non (ss_seq (ss_asg (sd_sv (sv_call arr_gP sa_nil (sa_cons sd_var (sa_cons sd_var (sa_cons sd_var (sa_cons sd_var sa_nil)))))) sg_name)
      (ss_retD (sd_sv (sv_call arr_id (sa_cons sd_var (sa_cons sd_var (sa_cons sd_var (sa_cons sd_var (sa_cons sd_var sa_nil))))) sa_nil)))))))) (ss_seq (ss_if (st_or (st_test (sd_op os_is sd_var sd_non)) (st_test (sd_op os_notIn sd_var sd_var))) (ss_ret (sv_sd (sd_andV (sd_op os_is sd_var sd_non) (sd_op os_is (sd_sv (sv_call arr_gP sa_nil (sa_cons sd_var (sa_cons sd_var (sa_cons sd_var (sa_cons sd_var sa_nil)))))) sd_non)))) ss_next) (ss_seq (ss_if (st_or (st_not (st_B (sd_sv (sv_call arr_id (sa_cons sd_var (sa_cons sd_var (sa_cons sd_var (sa_cons sd_var (sa_cons sd_var sa_nil))))) sa_nil)))) (st_test (sd_op os_isNot (sd_sv (sv_call arr_id (sa_cons sd_var (sa_cons sd_var sa_nil)) sa_nil)) sd_bl))) (ss_ret (sv_sd sd_bl)) ss_next) (ss_seq (ss_if (st_test (sd_op os_ne (sd_fz (so_lst (sa_cons (sd_sv (sv_call arr_id (sa_cons sd_var (sa_cons sd_var (sa_cons sd_var sa_nil))) sa_nil)) (sa_cons (sd_sv (sv_call arr_id (sa_cons sd_var (sa_cons sd_var sa_nil)) sa_nil)) sa_nil)))) (sd_fz (so_lst (sa_cons sd_var (sa_cons sd_var sa_nil)))))) (ss_ret (sv_sd sd_bl)) ss_next) (ss_seq (ss_drop sd_bad) (ss_seq (ss_asg (sd_sv (sv_call arr_gP sa_nil (sa_cons sd_var (sa_cons sd_var (sa_cons sd_var (sa_cons sd_var sa_nil)))))) sg_name)
      (ss_retD (sd_sv (sv_call arr_id (sa_cons sd_var (sa_cons sd_var (sa_cons sd_var (sa_cons sd_var (sa_cons sd_var sa_nil))))) sa_nil)))))))))⟩
theorem k__law_run_right {X : Cx} {K : PySem.W.Frag} {mg : PySem.Str → Option Value} {j : Nat} (T : Tx K mg) (hr : RoomG j X.A) (hj : 7 ≤ j := by decide) (hX : AtX X K mg := by exact ⟨rfl, rfl⟩) : CanG X (.ref (He.ga K "_law_run_right")) [] (rFn 6 0 (SpF K (F__law_run_right (cK K))) idv E0) := by
  obtain ⟨rfl, rfl⟩ := hX
  obtain ⟨fd, F⟩ := T.c.def_ 49 (d := d__law_run_right) rfl
  exact can_fn (f__law_run_right T F) (hr.le hj) (kb_plain F 6 [] (fun us _ => us) (fun a _ => a) fun _ _ _ _ _ _ us ws h1 h2 => match us, h1, ws, h2 with | [_, _, _, _, _, _], _, [], _ => rfl) pass0
theorem f__law_word_right {P : Program} {w : World} {K : PySem.W.Frag} {mg : PySem.Str → Option Value} {base : Heap} (T : Tx K mg) {fd : FuncData} (F : FunD K d__law_word_right.name d__law_word_right.qual d__law_word_right.params d__law_word_right.body d__law_word_right.scope (d__law_word_right.dvs K) (d__law_word_right.kws K) (d__law_word_right.at_ K) fd) : FnG P w K mg base CX0 8 (d__law_word_right.at_ K) fd ["made", "net", "ears", "phrase"] (SpF K (F__law_word_right (cK K))) := by
  have nd := sc__law_word_right.nd
  exact fn_g F sc__law_word_right SpF.len fun cdv A fr s H vs Q E hr h => ⟨_, PSs.nox (pss_cons (ps_set (i := 4) nd rfl (Or.inr rfl) (pe_g (ks := []) rfl (T.g_ "_law_due") (T.k_ "_law_due") (k__law_due (j := 7) T hr) (pa_cons (pv 1) (pa_cons (pv 2) (pa_cons (pv 3) pa_nil))) pk_nil))
      (pss_cons (ps_set (i := 5) nd rfl (Or.inl rfl) (pe_lst (pa_cons (pe_g (ks := []) rfl (T.g_ "chart_behind") (T.k_ "chart_behind") (k_chart_behind (j := 7) T hr) (pa_cons (pv 0) (pa_cons (pv 2) (pa_cons (pv 3) pa_nil))) pk_nil) (pa_cons (pe_g0 (ks := ["word", "heard", "machine"]) rfl (T.g_ "chart_behind") (T.k_ "chart_behind") (k_chart_behind_word_heard_machine (j := 7) T hr) (pk_cons (pv 3) (pk_cons (pv 2) (pk_cons (pv 0) pk_nil)))) pa_nil))))
      (pss_cons (ps_if (pt_cmpR (x_ne (j := 7) T hr) (pe_callB (u_repr (j := 7) T hr) rfl (T.f_ "repr") PyProof.Rows.boot_repr (pa_cons (pv 5) pa_nil)) (pe_callB (u_repr (j := 7) T hr) rfl (T.f_ "repr") PyProof.Rows.boot_repr (pa_cons (pe_lst (pa_cons (pv 4) (pa_cons (pv 4) pa_nil))) pa_nil)) (nomark _)) (pss_one (ps_ret pe_bl)) pss_nil)
      (pss_cons (ps_if (pt_not (pt_val (pe_callB (x_all T rfl) rfl (T.f_ "all") PyProof.Rows.boot_all (pa_cons (pe_lc (own := [("goal", 9)]) (g := gName 9) (tt := tYes) rfl nd (pi_range1 rfl (T.f_ "range") (pa_cons (pe_dget (x_un (j := 7) T hr) (pv 1) pe_str fun _ _ => rfl) pa_nil)) (blkOk_by (N := N__law_word_right) (sc := defScope s__law_word_right) (by decide +kernel)) (fun _ _ _ _ _ => pg_name (i := 9) nd rfl (Or.inl rfl)) (fun _ _ _ _ _ => pts_nil) (fun _ _ _ _ _ => (pe_g (ks := []) rfl (T.g_ "_law_run_right") (T.k_ "_law_run_right") (k__law_run_right (j := 7) T hr) (pa_cons (pv 0) (pa_cons (pv 1) (pa_cons (pv 2) (pa_cons (pv 3) (pa_cons (pv 9) (pa_cons (pv 4) pa_nil)))))) pk_nil))) pa_nil)))) (pss_one (ps_ret pe_bl)) pss_nil)
      (pss_cons (ps_if (pt_cmpR o_is (pv 4) pe_non (nomark _)) (pss_one (ps_ret pe_bl)) pss_nil)
      (pss_cons (ps_set (i := 6) nd rfl (Or.inl rfl) (x_join T pe_str (pe_lc (own := [("sign", 7)]) (g := gName 7) rfl nd (x_walk T (pv 2)) (blkOk_by (N := N__law_word_right) (sc := defScope s__law_word_right) (by decide +kernel)) (fun _ _ _ _ _ => pg_name (i := 7) nd rfl (Or.inl rfl)) (fun _ _ _ _ _ => (pts_one (pt_cmpR o_isNot (pe_g (ks := []) rfl (T.g_ "_law_due") (T.k_ "_law_due") (k__law_due (j := 7) T hr) (pa_cons (pv 1) (pa_cons (pv 2) (pa_cons (pe_op (x_add T) (pv 3) (pv 7)) pa_nil))) pk_nil) pe_non (nomark _)))) (fun _ _ _ _ _ => (pv 7)))))
      (pss_cons (ps_if (PW.pt (pw_or (pt_cmpR o_isNot (pe_g (ks := []) rfl (T.g_ "is_chart") (T.k_ "is_chart") (k_is_chart (j := 7) T hr) (pa_cons (pv 0) (pa_cons (pv 2) (pa_cons (pv 4) pa_nil))) pk_nil) pe_bl (nomark _)) (pw_or1 (pt_cmpR (x_ne (j := 7) T hr) (pe_g (ks := []) rfl (T.g_ "next_letters") (T.k_ "next_letters") (k_next_letters (j := 7) T hr) (pa_cons (pv 0) (pa_cons (pv 2) (pa_cons (pv 4) pa_nil))) pk_nil) (pv 6) (nomark _))))) (pss_one (ps_ret pe_bl)) pss_nil)
      (pss_cons (ps_for PassesOwn.never rfl (x_walk T pe_str) (pg_name (i := 7) nd rfl (Or.inl rfl)) (pss_cons (ps_set (i := 8) nd rfl (Or.inl rfl) (pe_ifExp (pt_cmpR (x_in (j := 7) T hr) (pv 7) (pv 2) (by rfl)) (pe_g (ks := []) rfl (T.g_ "_law_due") (T.k_ "_law_due") (k__law_due (j := 7) T hr) (pa_cons (pv 1) (pa_cons (pv 2) (pa_cons (pe_op (x_add T) (pv 3) (pv 7)) pa_nil))) pk_nil) pe_non))
      (pss_cons (ps_set (i := 5) nd rfl (Or.inl rfl) (pe_lst (pa_cons (pe_g (ks := []) rfl (T.g_ "chart_then") (T.k_ "chart_then") (k_chart_then (j := 7) T hr) (pa_cons (pv 0) (pa_cons (pv 2) (pa_cons (pv 4) (pa_cons (pv 7) pa_nil)))) pk_nil) (pa_cons (pe_g0 (ks := ["letter", "chart", "heard", "machine"]) rfl (T.g_ "chart_then") (T.k_ "chart_then") (k_chart_then_letter_chart_heard_machine (j := 7) T hr) (pk_cons (pv 7) (pk_cons (pv 4) (pk_cons (pv 2) (pk_cons (pv 0) pk_nil))))) pa_nil))))
      (pss_one (ps_if (pt_cmpR (x_ne (j := 7) T hr) (pe_callB (u_repr (j := 7) T hr) rfl (T.f_ "repr") PyProof.Rows.boot_repr (pa_cons (pv 5) pa_nil)) (pe_callB (u_repr (j := 7) T hr) rfl (T.f_ "repr") PyProof.Rows.boot_repr (pa_cons (pe_lst (pa_cons (pv 8) (pa_cons (pv 8) pa_nil))) pa_nil)) (nomark _)) (pss_one (ps_ret pe_bl)) pss_nil)))))
      (pss_one (ps_ret pe_bl)))))))))), SpF.body (N := N__law_word_right) (ar := 4) h
    (ss_seq (ss_asg (sd_sv (sv_call arr_id (sa_cons sd_var (sa_cons sd_var (sa_cons sd_var sa_nil))) sa_nil)) sg_name)
      (ss_seq (ss_asg (sd_fz (so_lst (sa_cons (sd_sv (sv_call arr_id (sa_cons sd_var (sa_cons sd_var (sa_cons sd_var sa_nil))) sa_nil)) (sa_cons (sd_sv (sv_call arr_gP sa_nil (sa_cons sd_var (sa_cons sd_var (sa_cons sd_var sa_nil))))) sa_nil)))) sg_name)
      (ss_seq (ss_if (st_test (sd_op os_ne (sd_cb cs_reprU (sa_cons sd_var sa_nil)) (sd_cb cs_reprU (sa_cons (sd_fz (so_lst (sa_cons sd_var (sa_cons sd_var sa_nil)))) sa_nil)))) (ss_retD sd_bl) ss_next)
      (ss_seq (ss_if (st_not (st_B (sd_cb cs_all (sa_cons (sd_fz (so_lc (si_rng (sa_cons (sd_dget sd_var sd_str) sa_nil)) sg_name st_yes (sd_sv (sv_call arr_id (sa_cons sd_var (sa_cons sd_var (sa_cons sd_var (sa_cons sd_var (sa_cons sd_var (sa_cons sd_var sa_nil)))))) sa_nil)) (by decide))) sa_nil)))) (ss_retD sd_bl) ss_next)
      (ss_seq (ss_if (st_test (sd_op os_is sd_var sd_non)) (ss_retD sd_bl) ss_next)
      (ss_seq (ss_asg (sd_join sd_str (sd_fz (so_lc (si_wk sd_var) sg_name (st_test (sd_op os_isNot (sd_sv (sv_call arr_id (sa_cons sd_var (sa_cons sd_var (sa_cons (sd_op os_add sd_var sd_var) sa_nil))) sa_nil)) sd_non)) sd_var (by decide)))) sg_name)
      (ss_seq (ss_if (st_or (st_test (sd_op os_isNot (sd_sv (sv_call arr_id (sa_cons sd_var (sa_cons sd_var (sa_cons sd_var sa_nil))) sa_nil)) sd_bl)) (st_test (sd_op os_ne (sd_sv (sv_call arr_id (sa_cons sd_var (sa_cons sd_var (sa_cons sd_var sa_nil))) sa_nil)) sd_var))) (ss_retD sd_bl) ss_next)
      (ss_seq (ss_for (si_wk sd_str) sg_name (ss_seq (ss_asg (sd_if (st_test (sd_op os_in sd_var sd_var)) (sd_sv (sv_call arr_id (sa_cons sd_var (sa_cons sd_var (sa_cons (sd_op os_add sd_var sd_var) sa_nil))) sa_nil)) sd_non) sg_name)
      (ss_seq (ss_asg (sd_fz (so_lst (sa_cons (sd_sv (sv_call arr_id (sa_cons sd_var (sa_cons sd_var (sa_cons sd_var (sa_cons sd_var sa_nil)))) sa_nil)) (sa_cons (sd_sv (sv_call arr_gP sa_nil (sa_cons sd_var (sa_cons sd_var (sa_cons sd_var (sa_cons sd_var sa_nil)))))) sa_nil)))) sg_name)
      (ss_if (st_test (sd_op os_ne (sd_cb cs_reprU (sa_cons sd_var sa_nil)) (sd_cb cs_reprU (sa_cons (sd_fz (so_lst (sa_cons sd_var (sa_cons sd_var sa_nil)))) sa_nil)))) (ss_retD sd_bl) ss_next))))
      (ss_retD sd_bl)))))))))⟩
theorem k__law_word_right {X : Cx} {K : PySem.W.Frag} {mg : PySem.Str → Option Value} {j : Nat} (T : Tx K mg) (hr : RoomG j X.A) (hj : 8 ≤ j := by decide) (hX : AtX X K mg := by exact ⟨rfl, rfl⟩) : CanG X (.ref (He.ga K "_law_word_right")) [] (rFn 4 0 (SpF K (F__law_word_right (cK K))) idv E0) := by
  obtain ⟨rfl, rfl⟩ := hX
  obtain ⟨fd, F⟩ := T.c.def_ 50 (d := d__law_word_right) rfl
  exact can_fn (f__law_word_right T F) (hr.le hj) (kb_plain F 4 [] (fun us _ => us) (fun a _ => a) fun _ _ _ _ _ _ us ws h1 h2 => match us, h1, ws, h2 with | [_, _, _, _], _, [], _ => rfl) pass0
theorem f__law_right {P : Program} {w : World} {K : PySem.W.Frag} {mg : PySem.Str → Option Value} {base : Heap} (T : Tx K mg) {fd : FuncData} (F : FunD K d__law_right.name d__law_right.qual d__law_right.params d__law_right.body d__law_right.scope (d__law_right.dvs K) (d__law_right.kws K) (d__law_right.at_ K) fd) : FnG P w K mg base CX0 9 (d__law_right.at_ K) fd ["pot"] (SpF K (F__law_right (cK K))) := by
  have nd := sc__law_right.nd
  exact fn_g F sc__law_right SpF.len fun cdv A fr s H vs Q E hr h => ⟨_, PSs.nox (pss_cons (ps_set (i := 1) nd rfl (Or.inr rfl) (pe_g (ks := []) rfl (T.g_ "_law_net") (T.k_ "_law_net") (k__law_net (j := 8) T hr) (pa_cons (pv 0) (pa_cons pe_int pa_nil)) pk_nil))
      (pss_cons (ps_asg (pe_tup (pa_cons (pe_g (ks := []) rfl (T.g_ "_law_made") (T.k_ "_law_made") (k__law_made (j := 8) T hr) (pa_cons (pv 1) pa_nil) pk_nil) (pa_cons (pe_g (ks := []) rfl (T.g_ "_law_ears") (T.k_ "_law_ears") (k__law_ears (j := 8) T hr) (pa_cons (pv 0) (pa_cons (pv 1) pa_nil)) pk_nil) pa_nil))) (x_gtup T (n := 2) (pgs_cons (pg_name (i := 2) nd rfl (Or.inr rfl)) (pgs_cons (pg_name (i := 3) nd rfl (Or.inr rfl)) pgs_nil))))
      (pss_cons (ps_set (i := 4) nd rfl (Or.inl rfl) (pe_callB (u_repr (j := 8) T hr) rfl (T.f_ "repr") PyProof.Rows.boot_repr (pa_cons (pv 2) pa_nil)))
      (pss_cons (ps_if (PW.pt (pw_or (pt_cmpR (x_ne (j := 8) T hr) (pe_callB (u_repr (j := 8) T hr) rfl (T.f_ "repr") PyProof.Rows.boot_repr (pa_cons (pe_g (ks := []) rfl (T.g_ "first_chart") (T.k_ "first_chart") (k_first_chart (j := 8) T hr) (pa_cons (pv 2) (pa_cons (pv 3) pa_nil)) pk_nil) pa_nil)) (pe_callB (u_repr (j := 8) T hr) rfl (T.f_ "repr") PyProof.Rows.boot_repr (pa_cons (pe_g (ks := []) rfl (T.g_ "_law_due") (T.k_ "_law_due") (k__law_due (j := 8) T hr) (pa_cons (pv 1) (pa_cons (pv 3) (pa_cons pe_str pa_nil))) pk_nil) pa_nil)) (nomark _)) (pw_or1 (pt_cmpR o_is (pe_g0 (ks := ["heard", "machine"]) rfl (T.g_ "first_chart") (T.k_ "first_chart") (k_first_chart_heard_machine (j := 8) T hr) (pk_cons (pv 3) (pk_cons (pv 2) pk_nil))) pe_non (nomark _))))) (pss_one (ps_ret pe_bl)) pss_nil)
      (pss_cons (ps_set (i := 5) nd rfl (Or.inl rfl) (pe_op (x_add T) (pe_op (x_add T) (pe_lst (pa_cons pe_str pa_nil)) (pe_lc (own := [("sign", 7)]) (g := gName 7) (tt := tYes) rfl nd (x_walk T pe_str) (blkOk_by (N := N__law_right) (sc := defScope s__law_right) (by decide +kernel)) (fun _ _ _ _ _ => pg_name (i := 7) nd rfl (Or.inl rfl)) (fun _ _ _ _ _ => pts_nil) (fun _ _ _ _ _ => (pv 7)))) (pe_lc (own := [("near", 8), ("far", 9)]) (g := gTup K 2 (gCons (gName 8) (gCons (gName 9) gNil))) (tt := tYes) rfl nd (x_zip T (pa_cons pe_str (pa_cons pe_str pa_nil))) (blkOk_by (N := N__law_right) (sc := defScope s__law_right) (by decide +kernel)) (fun _ _ _ _ _ => x_gtup T (n := 2) (pgs_cons (pg_name (i := 8) nd rfl (Or.inl rfl)) (pgs_cons (pg_name (i := 9) nd rfl (Or.inl rfl)) pgs_nil))) (fun _ _ _ _ _ => pts_nil) (fun _ _ _ _ _ => (pe_op (x_add T) (pv 8) (pv 9))))))
      (pss_cons (ps_for PassesOwn.never rfl (pi_range1 rfl (T.f_ "range") (pa_cons pe_int pa_nil)) (pg_name (i := 6) nd rfl (Or.inl rfl)) (pss_one (ps_expr (pe_bm PySem.F.plainAttrs_list PySem.F.slot_list_append PySem.F.type_list_append mt_append (pv 5) (pa_cons (x_join T pe_str (pe_lc (own := [("more", 10)]) (g := gName 10) (tt := tYes) rfl nd (pi_range1 rfl (T.f_ "range") (pa_cons (pe_op (x_add T) pe_int (pe_g (ks := []) rfl (T.g_ "_law_draw") (T.k_ "_law_draw") (k__law_draw (j := 8) T hr) (pa_cons (pv 0) (pa_cons pe_int pa_nil)) pk_nil)) pa_nil)) (blkOk_by (N := N__law_right) (sc := defScope s__law_right) (by decide +kernel)) (fun _ _ _ _ _ => pg_name (i := 10) nd rfl (Or.inl rfl)) (fun _ _ _ _ _ => pts_nil) (fun _ _ _ _ _ => (pe_g (ks := []) rfl (T.g_ "_law_pick") (T.k_ "_law_pick") (k__law_pick (j := 8) T hr) (pa_cons (pv 0) (pa_cons (pe_lst (pa_cons pe_str (pa_cons pe_str (pa_cons pe_str (pa_cons pe_str (pa_cons pe_str pa_nil)))))) pa_nil)) pk_nil)))) pa_nil)))))
      (pss_cons (ps_if (pt_not (pt_val (pe_callB (x_all T rfl) rfl (T.f_ "all") PyProof.Rows.boot_all (pa_cons (pe_lc (own := [("phrase", 11)]) (g := gName 11) (tt := tYes) rfl nd (x_walk T (pv 5)) (blkOk_by (N := N__law_right) (sc := defScope s__law_right) (by decide +kernel)) (fun _ _ _ _ _ => pg_name (i := 11) nd rfl (Or.inl rfl)) (fun _ _ _ _ _ => pts_nil) (fun _ _ _ _ _ => (pe_g (ks := []) rfl (T.g_ "_law_word_right") (T.k_ "_law_word_right") (k__law_word_right (j := 8) T hr) (pa_cons (pv 2) (pa_cons (pv 1) (pa_cons (pv 3) (pa_cons (pv 11) pa_nil)))) pk_nil))) pa_nil)))) (pss_one (ps_ret pe_bl)) pss_nil)
      (pss_one (ps_ret (pe_and (pe_cmpR (x_eq (j := 8) T hr) (pe_callB (u_repr (j := 8) T hr) rfl (T.f_ "repr") PyProof.Rows.boot_repr (pa_cons (pv 2) pa_nil)) (pv 4) (nomark _)) (pe_one (pe_cmpR (x_eq (j := 8) T hr) (pe_callB (u_repr (j := 8) T hr) rfl (T.f_ "repr") PyProof.Rows.boot_repr (pa_cons (pv 2) pa_nil)) (pe_callB (u_repr (j := 8) T hr) rfl (T.f_ "repr") PyProof.Rows.boot_repr (pa_cons (pe_g (ks := []) rfl (T.g_ "_law_made") (T.k_ "_law_made") (k__law_made (j := 8) T hr) (pa_cons (pv 1) pa_nil) pk_nil) pa_nil)) (nomark _))))))))))))), SpF.body (N := N__law_right) (ar := 1) h
    (ss_seq (ss_asg (sd_sv (sv_callC arrC_id (sa_cons sd_int sa_nil) sa_nil)) sg_name)
      (ss_seq (ss_asg (sd_tup (sa_cons (sd_sv (sv_call arr_id (sa_cons sd_var sa_nil) sa_nil)) (sa_cons (sd_sv (sv_callC arrC_id (sa_cons sd_var sa_nil) sa_nil)) sa_nil))) (sg_tup (sg_cons sg_name (sg_cons sg_name sg_nil))))
      (ss_seq (ss_asg (sd_cb cs_reprU (sa_cons sd_var sa_nil)) sg_name)
      (ss_seq (ss_if (st_or (st_test (sd_op os_ne (sd_cb cs_reprU (sa_cons (sd_sv (sv_call arr_id (sa_cons sd_var (sa_cons sd_var sa_nil)) sa_nil)) sa_nil)) (sd_cb cs_reprU (sa_cons (sd_sv (sv_call arr_id (sa_cons sd_var (sa_cons sd_var (sa_cons sd_str sa_nil))) sa_nil)) sa_nil)))) (st_test (sd_op os_is (sd_sv (sv_call arr_gP sa_nil (sa_cons sd_var (sa_cons sd_var sa_nil)))) sd_non))) (ss_retD sd_bl) ss_next)
      (ss_seq (ss_asgV (sv_so (so_add (sd_op os_add (sd_fz (so_lst (sa_cons sd_str sa_nil))) (sd_fz (so_lc (si_wk sd_str) sg_name st_yes sd_var (by decide)))) (sd_fz (so_lc (si_zip (sa_cons sd_str (sa_cons sd_str sa_nil))) (sg_tup (sg_cons sg_name (sg_cons sg_name sg_nil))) st_yes (sd_op os_add sd_var sd_var) (by decide))))))
      (ss_seq (ss_for (si_rng (sa_cons sd_int sa_nil)) sg_name (ss_drop (sd_app (sd_join sd_str (sd_fz (so_lc (si_rng (sa_cons (sd_op os_add sd_int (sd_sv (sv_callC arrC_id (sa_cons sd_int sa_nil) sa_nil))) sa_nil)) sg_name st_yes (sd_sv (sv_callC arrC_id (sa_cons (sd_fz (so_lst (sa_cons sd_str (sa_cons sd_str (sa_cons sd_str (sa_cons sd_str (sa_cons sd_str sa_nil))))))) sa_nil) sa_nil)) (by decide)))))))
      (ss_seq (ss_if (st_lo (st_not (st_B (sd_cb cs_all (sa_cons (sd_fz (so_lc (si_wk sd_var) sg_name st_yes (sd_sv (sv_call arr_id (sa_cons sd_var (sa_cons sd_var (sa_cons sd_var (sa_cons sd_var sa_nil)))) sa_nil)) (by decide))) sa_nil))))) (ss_retD sd_bl) ss_next)
      (ss_retD (sd_andV (sd_op os_eq (sd_cb cs_reprU (sa_cons sd_var sa_nil)) sd_var) (sd_op os_eq (sd_cb cs_reprU (sa_cons sd_var sa_nil)) (sd_cb cs_reprU (sa_cons (sd_sv (sv_call arr_id (sa_cons sd_var sa_nil) sa_nil)) sa_nil))))))))))))⟩
theorem k__law_right {X : Cx} {K : PySem.W.Frag} {mg : PySem.Str → Option Value} {j : Nat} (T : Tx K mg) (hr : RoomG j X.A) (hj : 9 ≤ j := by decide) (hX : AtX X K mg := by exact ⟨rfl, rfl⟩) : CanG X (.ref (He.ga K "_law_right")) [] (rFn 1 0 (SpF K (F__law_right (cK K))) idv E0) := by
  obtain ⟨rfl, rfl⟩ := hX
  obtain ⟨fd, F⟩ := T.c.def_ 51 (d := d__law_right) rfl
  exact can_fn (f__law_right T F) (hr.le hj) (kb_plain F 1 [] (fun us _ => us) (fun a _ => a) fun _ _ _ _ _ _ us ws h1 h2 => match us, h1, ws, h2 with | [_], _, [], _ => rfl) pass0
theorem f_law {P : Program} {w : World} {K : PySem.W.Frag} {mg : PySem.Str → Option Value} {base : Heap} (T : Tx K mg) {fd : FuncData} (F : FunD K d_law.name d_law.qual d_law.params d_law.body d_law.scope (d_law.dvs K) (d_law.kws K) (d_law.at_ K) fd) : FnG P w K mg base CX0 10 (d_law.at_ K) fd ["script"] (SpF K (F_law (cK K))) := by
  have nd := sc_law.nd
  exact fn_g F sc_law SpF.len fun cdv A fr s H vs Q E hr h => ⟨_, PSs.nox (pss_one (ps_ret (pe_callB (x_all T rfl) rfl (T.f_ "all") PyProof.Rows.boot_all (pa_cons (pe_lc (own := [("k", 1)]) (g := gName 1) (tt := tYes) rfl nd (pi_range1 rfl (T.f_ "range") (pa_cons (pe_callB (k_max rfl) rfl (T.f_ "max") PyProof.Rows.boot_max (pa_cons pe_int (pa_cons (pe_callB (k_min rfl) rfl (T.f_ "min") PyProof.Rows.boot_min (pa_cons pe_int (pa_cons (pe_callB (x_len T) rfl (T.f_ "len") PySem.boot_len (pa_cons (pv 0) pa_nil)) pa_nil))) pa_nil))) pa_nil)) (blkOk_by (N := N_law) (sc := defScope s_law) (by decide +kernel)) (fun _ _ _ _ _ => pg_name (i := 1) nd rfl (Or.inl rfl)) (fun _ _ _ _ _ => pts_nil) (fun _ _ _ _ _ => (pe_g (ks := []) rfl (T.g_ "_law_right") (T.k_ "_law_right") (k__law_right (j := 9) T hr) (pa_cons (pe_g (ks := []) rfl (T.g_ "_law_pot") (T.k_ "_law_pot") (k__law_pot (j := 9) T hr) (pa_cons (pv 0) (pa_cons (pv 1) pa_nil)) pk_nil) pa_nil) pk_nil))) pa_nil)))), SpF.body (N := N_law) (ar := 1) h
    (ss_retD (sd_cb cs_all (sa_cons (sd_fz (so_lc (si_rng (sa_cons (sd_cb cs_max (sa_cons sd_int (sa_cons (sd_cb cs_min (sa_cons sd_int (sa_cons (sd_cb cs_len (sa_cons sd_var sa_nil)) sa_nil))) sa_nil))) sa_nil)) sg_name st_yes (sd_sv (sv_callF arrC_id (sv_call arr_id (sa_cons sd_var (sa_cons sd_var sa_nil)) sa_nil) sa_nil sa_nil)) (by decide))) sa_nil)))⟩
theorem k_law {X : Cx} {K : PySem.W.Frag} {mg : PySem.Str → Option Value} {j : Nat} (T : Tx K mg) (hr : RoomG j X.A) (hj : 10 ≤ j := by decide) (hX : AtX X K mg := by exact ⟨rfl, rfl⟩) : CanG X (.ref (He.ga K "law")) [] (rFn 1 0 (SpF K (F_law (cK K))) idv E0) := by
  obtain ⟨rfl, rfl⟩ := hX
  obtain ⟨fd, F⟩ := T.c.def_ 52 (d := d_law) rfl
  exact can_fn (f_law T F) (hr.le hj) (kb_plain F 1 [] (fun us _ => us) (fun a _ => a) fun _ _ _ _ _ _ us ws h1 h2 => match us, h1, ws, h2 with | [_], _, [], _ => rfl) pass0
end DV

set_option autoImplicit false
set_option linter.all false
set_option maxRecDepth 100000
/-! Words for what functions over data answer. -/
namespace DV
open PySem L2
section
variable {τ α J : Type}
theorem forS_ex {eg : EvG} {body : EvS} {P : τ → Prop} (E : τ → J → Env) (g : τ → α → τ) (enc : α → Dat) : ∀ (as : List α), (∀ t j a, a ∈ as → P t → ∃ s1 j', eg (enc a) (E t j) = .ok () s1 ∧ (body s1 = .nx (E (g t a) j') ∨ body s1 = .ct (E (g t a) j')) ∧ P (g t a)) →
    ∀ t j, P t → ∃ j', forS eg body (as.map enc) (E t j) = .nx (E (as.foldl g t) j') ∧ P (as.foldl g t)
  | [], h, t, j, p => ⟨j, rfl, p⟩
  | a :: as, h, t, j, p => by
    obtain ⟨s1, j1, e1, e2, p1⟩ := h t j a List.mem_cons_self p
    obtain ⟨j2, e3, p2⟩ := forS_ex E g enc as (fun t j b hb => h t j b (List.mem_cons_of_mem _ hb)) (g t a) j1 p1
    refine ⟨j2, ?_, p2⟩
    show forS eg body (enc a :: as.map enc) (E t j) = _
    unfold forS
    rw [e1]
    rcases e2 with e2 | e2 <;> simp only [e2] <;> exact e3
theorem whileS_ex {et : EvT} {body : EvS} {P Done : τ → Prop} (E : τ → J → Env) (m : τ → Nat) (h : ∀ t j, P t → (∃ s1 t' j', et (E t j) = .ok true s1 ∧ body s1 = .nx (E t' j') ∧ P t' ∧ m t' < m t) ∨ (et (E t j) = .ok false (E t j) ∧ Done t)) :
    ∀ (n : Nat) t j, P t → m t < n → ∃ t' j', whileS et body n (E t j) = .nx (E t' j') ∧ P t' ∧ Done t'
  | 0, t, j, p, l => absurd l (Nat.not_lt_zero _)
  | n + 1, t, j, p, l => by
    rcases h t j p with ⟨s1, t', j', e1, e2, p', lt⟩ | ⟨e1, d⟩
    · obtain ⟨t2, j2, e3, p2, d2⟩ := whileS_ex E m h n t' j' p' (by omega)
      refine ⟨t2, j2, ?_, p2, d2⟩
      unfold whileS
      rw [e1]
      simp only [SR.of_ok, if_true, e2]
      exact e3
    · refine ⟨t, j, ?_, p, d⟩
      unfold whileS
      rw [e1]
      simp
/-- a comprehension over what stands still -/
theorem lcS_map {eg : EvG} {et : EvT} {ea : EvD} {vs : List Nat} {s0 : Env} (enc : α → Dat) (t : α → Bool) (f : α → Dat) : ∀ (as : List α), (∀ a ∈ as, ∃ s1 s2, eg (enc a) s0 = .ok () s1 ∧ et s1 = .ok (t a) s2 ∧ (t a = false → wipeE s2 vs = s0) ∧ (t a = true → ∃ s3, ea s2 = .ok (f a) s3 ∧ wipeE s3 vs = s0)) →
    ∀ (s : Env) (acc : List Dat), wipeE s vs = s0 → acc.length + as.length ≤ 100000 → ∃ s', lcS eg et ea vs (as.map enc) s acc = .ok (acc ++ (as.filter t).map f) s' ∧ wipeE s' vs = s0
  | [], h, s, acc, e, l => ⟨s, by simp [lcS], e⟩
  | a :: as, h, s, acc, e, l => by
    obtain ⟨s1, s2, e1, e2, h0, h1⟩ := h a List.mem_cons_self
    have hr := fun b hb => h b (List.mem_cons_of_mem _ hb)
    simp only [List.length_cons] at l
    cases q : t a with
    | false =>
      obtain ⟨s', e3, e4⟩ := lcS_map enc t f as hr s2 acc (h0 q) (by omega)
      refine ⟨s', ?_, e4⟩
      show lcS eg et ea vs (enc a :: as.map enc) s acc = _
      unfold lcS
      rw [e, e1]
      simp only [e2, q, Bool.false_eq_true, if_false, e3, List.filter_cons]
    | true =>
      obtain ⟨s3, e5, e6⟩ := h1 q
      obtain ⟨s', e3, e4⟩ := lcS_map enc t f as hr s3 (acc ++ [f a]) e6 (by simp; omega)
      refine ⟨s', ?_, e4⟩
      show lcS eg et ea vs (enc a :: as.map enc) s acc = _
      unfold lcS
      rw [e, e1]
      simp only [e2, q, if_true, e5, List.filter_cons, List.map_cons]
      rw [if_pos (by omega), e3, List.append_assoc]
      rfl
/-- .. over what may change, the answers known by a relation -/
theorem lcS_rel {eg : EvG} {et : EvT} {ea : EvD} {vs : List Nat} {I : Env → Prop} {R : α → Dat → Prop} (enc : α → Dat) : ∀ (as : List α), (∀ a ∈ as, ∀ s, I s → ∃ s1 b s2, eg (enc a) s = .ok () s1 ∧ et s1 = .ok b s2 ∧ (b = false → I (wipeE s2 vs)) ∧ (b = true → ∃ d s3, ea s2 = .ok d s3 ∧ R a d ∧ I (wipeE s3 vs))) →
    ∀ (s : Env) (acc : List Dat), I (wipeE s vs) → acc.length + as.length ≤ 100000 → ∃ (bs : List α) (ds : List Dat) (s' : Env), lcS eg et ea vs (as.map enc) s acc = .ok (acc ++ ds) s' ∧ I (wipeE s' vs) ∧ bs.Sublist as ∧ bs.length = ds.length ∧ ∀ (i : Nat) (a : α) (d : Dat), bs[i]? = some a → ds[i]? = some d → R a d
  | [], h, s, acc, e, l => ⟨[], [], s, by simp [lcS], e, List.Sublist.refl _, rfl, fun i a d h => by simp at h⟩
  | a :: as, h, s, acc, e, l => by
    obtain ⟨s1, b, s2, e1, e2, h0, h1⟩ := h a List.mem_cons_self _ e
    have hr := fun b hb => h b (List.mem_cons_of_mem _ hb)
    simp only [List.length_cons] at l
    cases b with
    | false =>
      obtain ⟨bs, ds, s', e3, e4, e5, e6, e7⟩ := lcS_rel (R := R) enc as hr s2 acc (h0 rfl) (by omega)
      refine ⟨bs, ds, s', ?_, e4, e5.cons _, e6, e7⟩
      show lcS eg et ea vs (enc a :: as.map enc) s acc = _
      unfold lcS
      rw [e1]
      simp only [e2, Bool.false_eq_true, if_false, e3]
    | true =>
      obtain ⟨d, s3, e8, e9, e10⟩ := h1 rfl
      obtain ⟨bs, ds, s', e3, e4, e5, e6, e7⟩ := lcS_rel (R := R) enc as hr s3 (acc ++ [d]) e10 (by simp; omega)
      refine ⟨a :: bs, d :: ds, s', ?_, e4, e5.cons_cons _, by simp [e6], fun i x y hx hy => ?_⟩
      · show lcS eg et ea vs (enc a :: as.map enc) s acc = _
        unfold lcS
        rw [e1]
        simp only [e2, if_true, e8]
        rw [if_pos (by omega), e3, List.append_assoc]
        rfl
      · cases i with
        | zero => simp at hx hy; subst hx hy; exact e9
        | succ i => exact e7 i x y (by simpa using hx) (by simpa using hy)
end
end DV

set_option autoImplicit false
set_option linter.all false
set_option maxRecDepth 100000
/-! basics.py, machines.py over data. -/
namespace DV
open PySem L2
/-! letters -/
abbrev mk (l : List Nat) : PySem.Str := ⟨l.toArray⟩
def lows (l : List Nat) : Prop := ∀ k ∈ l, 97 ≤ k ∧ k ≤ 122
theorem small_mem {k : Nat} (h : 97 ≤ k ∧ k ≤ 122) : k ∈ smallS.cps.toList := by
  have h : k = 97 ∨ k = 98 ∨ k = 99 ∨ k = 100 ∨ k = 101 ∨ k = 102 ∨ k = 103 ∨ k = 104 ∨ k = 105 ∨ k = 106 ∨ k = 107 ∨ k = 108 ∨ k = 109 ∨ k = 110 ∨ k = 111 ∨ k = 112 ∨ k = 113 ∨ k = 114 ∨ k = 115 ∨ k = 116 ∨ k = 117 ∨ k = 118 ∨ k = 119 ∨ k = 120 ∨ k = 121 ∨ k = 122 := by omega
  rcases h with h | h | h | h | h | h | h | h | h | h | h | h | h | h | h | h | h | h | h | h | h | h | h | h | h | h <;> subst h <;> decide +kernel
theorem sgnOf_sgn (k : Nat) : sgnOf (sgn k) = some k := rfl
theorem boolsOf_map {α : Type} (f : α → Bool) (l : List α) : boolsOf (l.map fun k => Dat.bl (f k)) = some (l.map f) := by
  induction l with
  | nil => rfl
  | cons k l ih => simp [boolsOf, ih]
theorem len_mk (l : List Nat) : (mk l).length = l.length := by
  show l.toArray.size = _
  simp
theorem mk_len1 {l : List Nat} : (((mk l).length : Int) = 1) ↔ ∃ k, l = [k] := by
  rw [len_mk]
  constructor
  · intro h
    match l, h with
    | [k], _ => exact ⟨k, rfl⟩
  · rintro ⟨k, rfl⟩; rfl
theorem sp_is_integer (C : CA) (i : Int) : F_is_integer C none [.int i] = .ok (.d (.bl true)) none := rfl
theorem sp_is_listL (C : CA) (ds : List Dat) : F_is_list C none [.lst ds] = .ok (.d (.bl true)) none := rfl
theorem sp_is_listT (C : CA) (ds : List Dat) : F_is_list C none [.tup ds] = .ok (.d (.bl true)) none := rfl
/-- isinstance of a written class -/
@[simp] theorem isi_str (z : PySem.Str) : aIsi [.str z, .obj (.ty "str")] = some (.bl true) := rfl
@[simp] theorem isi_tup (ds : List Dat) : aIsi [.tup ds, .obj (.ty "tuple")] = some (.bl true) := rfl
@[simp] theorem isi_lst (ds : List Dat) : aIsi [.lst ds, .obj (.ty "list")] = some (.bl true) := rfl
@[simp] theorem isi_non (n : String) (h : n = "tuple" ∨ n = "list" ∨ n = "str") : aIsi [.non, .obj (.ty n)] = some (.bl false) := by
  rcases h with rfl | rfl | rfl <;> rfl
theorem sp_is_word (C : CA) (l : List Nat) (h : lows l) (hl : l.length ≤ 1000) : F_is_word C none [.str (mk l)] = .ok (.d (.bl true)) none := by
  have key := lcS_map (eg := gN 1) (et := eYes) (ea := eOp aIn (eVar 1) (eC (.str smallS))) (vs := [1]) (s0 := [some (.d (.str (mk l))), none]) (fun k => Dat.str (sgn k)) (fun _ => true) (fun k => .bl (decide (k ∈ smallS.cps.toList))) l
    (fun a _ => ⟨_, _, rfl, rfl, (fun z => nomatch z), fun _ => ⟨_, rfl, rfl⟩⟩) [some (.d (.str (mk l))), none] [] rfl (by simp; omega)
  obtain ⟨s', e, w⟩ := key
  have e2 : l.filter (fun _ => true) = l := by simp
  rw [e2] at e
  simp [F_is_word, e, boolsOf_map]
  exact fun k hk => by simpa using small_mem (h k hk)
theorem sp_is_letter (C : CA) (l : List Nat) (h : lows l) (hl : l.length ≤ 1000) : F_is_letter C none [.str (mk l)] = .ok (.d (.bl (decide (((mk l).length : Int) = 1)))) none := by
  have hz : (mk l).length ≤ sizeLine := by rw [len_mk]; exact Nat.le_trans hl (by decide)
  simp only [F_is_letter, runB, env0, sRetD, eAndV, eVD, eCall, eCons, eVar, eNil]
  simp [sp_is_word C l h hl, hz]
theorem sp_want_word (C : CA) (l : List Nat) (h : lows l) (hl : l.length ≤ 1000) : F_want_word C none [.str (mk l)] = .ok (.d .non) none := by
  simp [F_want_word, sp_is_word C l h hl]
theorem sp_want_letter (C : CA) (k : Nat) (h : 97 ≤ k ∧ k ≤ 122) : F_want_letter C none [.str (sgn k)] = .ok (.d .non) none := by
  have := sp_is_letter C [k] (fun x hx => by rw [List.mem_singleton] at hx; subst hx; exact h) (by simp)
  have e : ((mk [k]).length : Int) = 1 := rfl
  simp [F_want_letter, show sgn k = mk [k] from rfl, this, e]
theorem sp_is_place (C : CA) (i n : Int) : F_is_place C none [.int i, .int n] = .ok (.d (.bl (decide (0 ≤ i) && decide (i < n)))) none := by
  by_cases h : 0 ≤ i <;> simp [F_is_place, sp_is_integer, h]
/-! steps -/
abbrev Stp := Int × List Nat × Int
def stpD (s : Stp) : Dat := .tup [.int s.1, .str (mk s.2.1), .int s.2.2]
/-- a step of n places: its letter is nothing or one letter -/
structure StOk (n : Int) (s : Stp) : Prop where
  a : 0 ≤ s.1 ∧ s.1 < n
  b : 0 ≤ s.2.2 ∧ s.2.2 < n
  z : lows s.2.1 ∧ s.2.1.length ≤ 1
@[simp] theorem atI0 {α : Type} (a : α) (l : List α) : L2.atI (a :: l) 0 = some a := L2.atI_nat (j := 0) rfl
@[simp] theorem atI1 {α : Type} (a b : α) (l : List α) : L2.atI (a :: b :: l) 1 = some b := L2.atI_nat (j := 1) rfl
@[simp] theorem atI2 {α : Type} (a b c : α) (l : List α) : L2.atI (a :: b :: c :: l) 2 = some c := L2.atI_nat (j := 2) rfl
theorem mk_inj {x y : List Nat} : mk x = mk y ↔ x = y := by
  constructor
  · intro h
    have : (mk x).cps = (mk y).cps := congrArg _ h
    simpa using this
  · rintro rfl; rfl
@[simp] theorem str_nil : ("" : PySem.Str) = mk [] := rfl
theorem silent_mk : silentS = mk [] := rfl
theorem sp_is_step (C : CA) (n : Int) (s : Stp) (h : StOk n s) : F_is_step C none [stpD s, .int n] = .ok (.d (.bl true)) none := by
  obtain ⟨a, l, b⟩ := s
  obtain ⟨h1, h2, h3, h4⟩ := h
  simp only at h1 h2 h3 h4
  have hl := sp_is_letter C l h3 (by omega)
  cases l with
  | nil =>
    simp [F_is_step, stpD, sp_is_place, h1, h2, silent_mk]
  | cons k l =>
    have e : ((mk (k :: l)).length : Int) = 1 := by rw [len_mk]; simp at h4 ⊢; rw [h4]; rfl
    have ne : mk (k :: l) ≠ mk [] := fun z => by rw [mk_inj] at z; cases z
    simp only [F_is_step, stpD]
    simp [sp_is_place, h1, h2, silent_mk, hl, e, ne]
end DV

set_option autoImplicit false
set_option linter.all false
set_option maxRecDepth 100000
namespace DV
open PySem L2
/-! ### sorted sets of codes, joins -/
def ltN (a b : Nat) : Bool := decide (a < b)
theorem ltN_ok : LtOk ltN := ⟨fun {x y z} h1 h2 => by simp only [ltN, decide_eq_true_eq] at *; omega, fun {x} => by simp [ltN], fun {x y} h1 h2 => by simp only [ltN, decide_eq_true_eq, decide_eq_false_iff_not] at *; omega⟩
theorem ltS_sgn (a b : Nat) : ltS (sgn a) (sgn b) = ltN a b := by
  unfold ltS ltN
  rw [decide_eq_decide]
  show [a] < [b] ↔ a < b
  rw [List.cons_lt_cons_iff]
  simp
theorem sgn_inj {a b : Nat} : sgn a = sgn b ↔ a = b := by
  show mk [a] = mk [b] ↔ _
  rw [mk_inj]; simp
theorem ssU_map {κ μ : Type} [DecidableEq κ] [DecidableEq μ] {lt : κ → κ → Bool} {lt' : μ → μ → Bool} {f : κ → μ} (h : ∀ a b, lt' (f a) (f b) = lt a b) (hi : ∀ a b, f a = f b ↔ a = b) (ks : List κ) : ssU lt' (ks.map f) = (ssU lt ks).map f := by
  have one : ∀ (x : κ) (ys : List κ), insU lt' (f x) (ys.map f) = (insU lt x ys).map f := by
    intro x ys
    induction ys with
    | nil => rfl
    | cons y ys ih =>
      simp only [List.map_cons, insU, h, hi, ih]
      split
      · rfl
      · split <;> rfl
  induction ks with
  | nil => rfl
  | cons k ks ih =>
    show insU lt' (f k) (ssU lt' (ks.map f)) = _
    rw [ih, one]
    rfl
theorem join_sgn (ks : List Nat) : Txt.join (mk []) (ks.map sgn) = mk ks := by
  rw [TL.join_eq]
  apply PySem.W.str_of_cps
  show TL.tl _ = TL.tl _
  rw [TL.tl_join]
  have : ∀ ks : List Nat, TL.joinL [] ((ks.map sgn).map TL.tl) = ks := by
    intro ks
    induction ks with
    | nil => rfl
    | cons k ks ih =>
      cases ks with
      | nil => rfl
      | cons k' ks =>
        show [k] ++ ([] ++ TL.joinL [] (((k' :: ks).map sgn).map TL.tl)) = _
        rw [ih]
        rfl
  have e := this ks
  show TL.joinL (TL.tl (mk [])) _ = _
  rw [show TL.tl (mk []) = [] from rfl, e]
theorem join_len (ks : List Nat) : ((ks.map sgn).map (·.length)).sum = ks.length := by
  induction ks with
  | nil => rfl
  | cons k ks ih =>
    simp only [List.map_cons, List.sum_cons, ih, List.length_cons]
    show 1 + _ = _
    omega
/-! ### want_steps, want_begins -/
theorem cut0 {ds : List Dat} {i : Nat} (h : i ≤ ds.length) : cutD ds none (some (i : Int)) = ds.take i := by
  show (ds.drop 0).take (HT.sIx ds.length ds.length (some (i : Int)) - 0) = _
  rw [HT.sIx_nat, Nat.min_eq_left h]
  rfl
theorem not_in_take {α : Type} {l : List α} {i : Nat} (nd : l.Nodup) (h : i < l.length) : l[i] ∉ l.take i := fun m => by
  have e : l = l.take i ++ l[i] :: l.drop (i + 1) := by rw [← List.drop_eq_getElem_cons h, List.take_append_drop]
  rw [e] at nd
  exact (List.nodup_append.mp nd).2.2 _ m _ List.mem_cons_self rfl
theorem eqv_stp (s t : Stp) : PyData.eqv (toP (stpD s)) (toP (stpD t)) = decide (s = t) := by
  obtain ⟨a, z, b⟩ := s
  obtain ⟨a', z', b'⟩ := t
  show PyData.eqv (.tuple [.int a, .str (mk z), .int b]) (.tuple [.int a', .str (mk z'), .int b']) = _
  simp [PyData.eqv, PyData.eqvAll]
  rw [Bool.eq_iff_iff]
  simp
theorem lows_ok {z : List Nat} (h : lows z) : PyData.strOk (mk z) = true := by
  show (mk z).cps.all (· < 0x110000) = true
  rw [← Array.all_toList, List.all_eq_true]
  intro k hk
  have := h k (by simpa using hk)
  exact decide_eq_true (by omega)
theorem plains_stp : ∀ ss : List Stp, plains (ss.map stpD) = true
  | [] => rfl
  | s :: ss => Bool.and_eq_true_iff.mpr ⟨rfl, plains_stp ss⟩
theorem depth_stp (ss : List Stp) : PyData.depthAll (toPs (ss.map stpD)) ≤ 1 := by
  induction ss with
  | nil => exact Nat.zero_le _
  | cons s ss ih =>
    show max (PyData.depth (toP (stpD s))) (PyData.depthAll (toPs (ss.map stpD))) ≤ 1
    exact Nat.max_le.mpr ⟨Nat.le_refl 1, ih⟩
theorem shp_stps (ss : List Stp) (h : ∀ s ∈ ss, lows s.2.1) : shp (.lst (ss.map stpD)) = true := by
  have l : PyData.canLayAll0 (toPs (ss.map stpD)) = true := by
    induction ss with
    | nil => rfl
    | cons s ss ih =>
      refine Bool.and_eq_true_iff.mpr ⟨?_, ih fun x hx => h x (List.mem_cons_of_mem _ hx)⟩
      show (true && (PyData.strOk (mk s.2.1) && (true && true))) = true
      rw [lows_ok (h s List.mem_cons_self)]
      rfl
  refine Bool.and_eq_true_iff.mpr ⟨plains_stp ss, Bool.and_eq_true_iff.mpr ⟨l, decide_eq_true ?_⟩⟩
  show PyData.depthAll (toPs (ss.map stpD)) + 1 ≤ 64
  have := depth_stp ss
  omega
theorem shp_stp (s : Stp) (h : lows s.2.1) : shp (stpD s) = true := by
  refine Bool.and_eq_true_iff.mpr ⟨rfl, Bool.and_eq_true_iff.mpr ⟨?_, rfl⟩⟩
  show (true && (PyData.strOk (mk s.2.1) && (true && true))) = true
  rw [lows_ok h]
  rfl
theorem any_stp (ss : List Stp) (s : Stp) : anyEq (ss.map stpD) (stpD s) = decide (s ∈ ss) := by
  unfold anyEq
  rw [Bool.eq_iff_iff, List.any_eq_true, decide_eq_true_eq]
  constructor
  · rintro ⟨x, hx, e⟩
    obtain ⟨t, ht, rfl⟩ := List.mem_map.mp hx
    rw [eqv_stp, decide_eq_true_eq] at e
    exact e ▸ ht
  · intro h
    exact ⟨stpD s, List.mem_map.mpr ⟨s, h, rfl⟩, by rw [eqv_stp]; exact decide_eq_true rfl⟩
/-- step in steps -/
theorem in_stp {ss : List Stp} {s : Stp} (h : ∀ s ∈ ss, lows s.2.1) (hs : lows s.2.1) : aInB (stpD s) (.lst (ss.map stpD)) = some (decide (s ∈ ss)) := by
  have e : aInB (stpD s) (.lst (ss.map stpD)) = if shp (stpD s) = true ∧ shp (.lst (ss.map stpD)) = true then some (anyEq (ss.map stpD) (stpD s)) else none := rfl
  rw [e, if_pos ⟨shp_stp s hs, shp_stps ss h⟩, any_stp]
theorem shp_ints (bs : List Int) : shp (.lst (bs.map Dat.int)) = true := by
  have p : plains (bs.map Dat.int) = true := by
    induction bs with
    | nil => rfl
    | cons s ss ih => exact Bool.and_eq_true_iff.mpr ⟨rfl, ih⟩
  have l : PyData.canLayAll0 (toPs (bs.map Dat.int)) = true := by
    clear p
    induction bs with
    | nil => rfl
    | cons s ss ih => exact Bool.and_eq_true_iff.mpr ⟨rfl, ih⟩
  have d : PyData.depthAll (toPs (bs.map Dat.int)) ≤ 1 := by
    clear p l
    induction bs with
    | nil => exact Nat.zero_le _
    | cons s ss ih =>
      show max (PyData.depth (toP (Dat.int s))) (PyData.depthAll (toPs (ss.map Dat.int))) ≤ 1
      exact Nat.max_le.mpr ⟨Nat.zero_le _, ih⟩
  refine Bool.and_eq_true_iff.mpr ⟨p, Bool.and_eq_true_iff.mpr ⟨l, decide_eq_true ?_⟩⟩
  show PyData.depthAll (toPs (bs.map Dat.int)) + 1 ≤ 64
  omega
theorem any_int (bs : List Int) (b : Int) : anyEq (bs.map Dat.int) (.int b) = decide (b ∈ bs) := by
  unfold anyEq
  rw [Bool.eq_iff_iff, List.any_eq_true, decide_eq_true_eq]
  constructor
  · rintro ⟨x, hx, e⟩
    obtain ⟨t, ht, rfl⟩ := List.mem_map.mp hx
    have : t = b := by simpa [toP, PyData.eqv] using e
    exact this ▸ ht
  · intro h
    exact ⟨.int b, List.mem_map.mpr ⟨b, h, rfl⟩, by simp [toP, PyData.eqv]⟩
theorem in_int {bs : List Int} {b : Int} : aInB (.int b) (.lst (bs.map Dat.int)) = some (decide (b ∈ bs)) := by
  have e : aInB (.int b) (.lst (bs.map Dat.int)) = if shp (.int b) = true ∧ shp (.lst (bs.map Dat.int)) = true then some (anyEq (bs.map Dat.int) (.int b)) else none := rfl
  rw [e, if_pos ⟨rfl, shp_ints bs⟩, any_int]
theorem in_intT {bs : List Int} {b : Int} : aInB (.int b) (.tup (bs.map Dat.int)) = some (decide (b ∈ bs)) := by
  have e : aInB (.int b) (.tup (bs.map Dat.int)) = if flatD (.int b) = true ∧ (bs.map Dat.int).all flatD = true then some (anyEq (bs.map Dat.int) (.int b)) else none := rfl
  rw [e, if_pos ⟨rfl, by simp [flatD]⟩, any_int]
theorem enum_map {α : Type} (as : List α) (enc : α → Dat) : enumOf [.lst (as.map enc)] = some (as.zipIdx.map fun p => Dat.tup [.int ((p.2 : Nat) : Int), enc p.1]) := by
  unfold enumOf
  simp only [Option.some.injEq]
  apply List.ext_getElem
  · simp
  · intro i h1 h2
    simp at h1 ⊢
    rw [List.getElem?_eq_getElem h1]
    rfl
theorem zipIdx_get {α : Type} {as : List α} {p : α × Nat} (h : p ∈ as.zipIdx) : ∃ hi : p.2 < as.length, as[p.2] = p.1 := by
  obtain ⟨x, i⟩ := p
  have := List.mem_zipIdx_iff_getElem?.mp h
  have hi := lt_of_some this
  rw [List.getElem?_eq_getElem hi] at this
  exact ⟨hi, Option.some.inj this⟩
theorem sp_want_steps (C : CA) (n : Int) (ss : List Stp) (h : ∀ s ∈ ss, StOk n s) (nd : ss.Nodup) : F_want_steps C none [.lst (ss.map stpD), .int n] = .ok (.d .non) none := by
  have key := forS_ex (J := Option Dat × Option Dat) (τ := Unit) (P := fun _ => True) (eg := gTu 2 (gConss (gN 2) (gConss (gN 3) gNils))) (body := sIf (eOr (eNot (eTs (eVD (eCall 2 0 (F_is_step C) (fun es _ => es) (eCons (eVar 3) (eCons (eVar 1) eNil)) eNil)))) (eTs (eOp aIn (eVar 3) (eSl (eVar 0) (eOi none) (eOi (some (eVar 2)))))))
      (fun _ => .bad)
      sNext) (fun _ j => [some (.d (.lst (ss.map stpD))), some (.d (.int n)), j.1.map Ow.d, j.2.map Ow.d]) (fun _ _ => ()) (fun (p : Stp × Nat) => Dat.tup [.int ((p.2 : Nat) : Int), stpD p.1]) ss.zipIdx (fun _ j p hp _ => by
    obtain ⟨hi, ei⟩ := zipIdx_get hp
    have hm : p.1 ∈ ss := by rw [← ei]; exact List.getElem_mem hi
    have e1 := sp_is_step C n _ (h _ hm)
    have e2 := in_stp (ss := ss.take p.2) (s := p.1) (fun s hs => (h s (List.mem_of_mem_take hs)).z.1) (h _ hm).z.1
    have e3 := cut0 (ds := ss.map stpD) (i := p.2) (by simpa using Nat.le_of_lt hi)
    have e4 : p.1 ∉ ss.take p.2 := by rw [← ei]; exact not_in_take nd hi
    refine ⟨[some (.d (.lst (ss.map stpD))), some (.d (.int n)), some (.d (.int (p.2 : Nat))), some (.d (stpD p.1))], (some (.int (p.2 : Nat)), some (stpD p.1)), ?_, .inl ?_, trivial⟩
    · rcases j with ⟨_ | _, _ | _⟩ <;> simp
    · simp [e1, e3, ← List.map_take, e2, e4]) () (none, none) trivial
  obtain ⟨j', e, _⟩ := key
  simp [F_want_steps, sp_is_listL, enum_map]
  simp at e
  rw [e]
end DV

set_option autoImplicit false
set_option linter.all false
set_option maxRecDepth 100000
namespace DV
open PySem L2
/-! ### letters -/
def ltL (a b : List Nat) : Bool := decide (a < b)
theorem ltL_ok : LtOk ltL := ⟨fun {x y z} h1 h2 => by
  simp only [ltL, decide_eq_true_eq] at *
  exact nat_tr h1 h2, fun {x} => by simp only [ltL, decide_eq_false_iff_not]; exact nat_irr, fun {x y} h1 h2 => by
  simp only [ltL, decide_eq_true_eq, decide_eq_false_iff_not] at *
  exact nat_tri h1 h2⟩
theorem ltS_mk (a b : List Nat) : ltS (mk a) (mk b) = ltL a b := by
  unfold ltS ltL
  simp
theorem join_mk (zs : List (List Nat)) : Txt.join (mk []) (zs.map mk) = mk zs.flatten := by
  rw [TL.join_eq]
  apply PySem.W.str_of_cps
  show TL.tl _ = TL.tl _
  rw [TL.tl_join]
  have : ∀ zs : List (List Nat), TL.joinL [] ((zs.map mk).map TL.tl) = zs.flatten := by
    intro zs
    induction zs with
    | nil => rfl
    | cons k ks ih =>
      cases ks with
      | nil => simp [TL.joinL, TL.tl]
      | cons k' ks =>
        show TL.tl (mk k) ++ ([] ++ TL.joinL [] (((k' :: ks).map mk).map TL.tl)) = _
        rw [ih]
        simp [TL.tl]
  have e := this zs
  show TL.joinL (TL.tl (mk [])) _ = _
  rw [show TL.tl (mk []) = [] from rfl, e]
theorem sset_strs (zs : List PySem.Str) (h : zs.length ≤ 1000) : aSSet (.lst (zs.map Dat.str)) = some ((ssU ltS zs).map Dat.str) := by
  unfold aSSet
  simp only [List.length_map]
  rw [if_pos h]
  cases zs with
  | nil => rfl
  | cons z zs =>
    have e : intsOf ((z :: zs).map Dat.str) = none := rfl
    rw [e]
    simp only [strsOf_map]
    rfl
/-- the letters of steps: their codes, rising -/
def ltrs (zs : List (List Nat)) : List Nat := (ssU ltL zs).flatten
theorem mem_ltrs {zs : List (List Nat)} {k : Nat} : k ∈ ltrs zs ↔ ∃ z ∈ zs, k ∈ z := by
  unfold ltrs
  rw [List.mem_flatten]
  exact ⟨fun ⟨l, h1, h2⟩ => ⟨l, mem_ssU.mp h1, h2⟩, fun ⟨l, h1, h2⟩ => ⟨l, mem_ssU.mpr h1, h2⟩⟩
theorem asc_ltrs {zs : List (List Nat)} (h : ∀ z ∈ zs, z.length ≤ 1) : (ltrs zs).Pairwise (fun a b => ltN a b = true) := by
  unfold ltrs
  rw [List.pairwise_flatten]
  refine ⟨fun l hl => ?_, (asc_ssU ltL_ok).imp_of_mem fun {a b} ha hb hab x hx y hy => ?_⟩
  · have := h l (mem_ssU.mp hl)
    match l, this with
    | [], _ => exact List.Pairwise.nil
    | [x], _ => exact List.pairwise_singleton _ _
  · have h1 := h a (mem_ssU.mp ha)
    have h2 := h b (mem_ssU.mp hb)
    match a, b, h1, h2 with
    | [x'], [y'], _, _ =>
      rw [List.mem_singleton] at hx hy
      subst hx hy
      simp only [ltL, decide_eq_true_eq, List.cons_lt_cons_iff] at hab
      simp only [ltN, decide_eq_true_eq]
      simpa using hab
/-- two lists of texts with the same letters -/
theorem ltrs_one {zs ys : List (List Nat)} (h : ∀ z ∈ zs, z.length ≤ 1) (h' : ∀ z ∈ ys, z.length ≤ 1) (e : ∀ k, (∃ z ∈ zs, k ∈ z) ↔ ∃ z ∈ ys, k ∈ z) : ltrs zs = ltrs ys :=
  asc_one ltN_ok (asc_ltrs h) (asc_ltrs h') fun k => mem_ltrs.trans ((e k).trans mem_ltrs.symm)
def lets (ss : List Stp) : List Nat := ltrs (ss.map (·.2.1))
def hasL (s : Stp) : Bool := decide (s.2.1 ≠ [])
theorem lets_of {ss : List Stp} (h : ∀ s ∈ ss, s.2.1.length ≤ 1) : ltrs ((ss.filter hasL).map (·.2.1)) = lets ss := by
  refine ltrs_one (fun z hz => ?_) (fun z hz => ?_) fun k => ⟨?_, ?_⟩
  · obtain ⟨s, hs, rfl⟩ := List.mem_map.mp hz
    exact h s (List.mem_filter.mp hs).1
  · obtain ⟨s, hs, rfl⟩ := List.mem_map.mp hz
    exact h s hs
  · rintro ⟨z, hz, hk⟩
    obtain ⟨s, hs, rfl⟩ := List.mem_map.mp hz
    exact ⟨_, List.mem_map.mpr ⟨s, (List.mem_filter.mp hs).1, rfl⟩, hk⟩
  · rintro ⟨z, hz, hk⟩
    obtain ⟨s, hs, rfl⟩ := List.mem_map.mp hz
    exact ⟨_, List.mem_map.mpr ⟨s, List.mem_filter.mpr ⟨hs, decide_eq_true fun e => by rw [e] at hk; cases hk⟩, rfl⟩, hk⟩
theorem flat_len {zs : List (List Nat)} (h : ∀ z ∈ zs, z.length ≤ 1) : zs.flatten.length ≤ zs.length := by
  induction zs with
  | nil => simp
  | cons z zs ih =>
    have := h z List.mem_cons_self
    have := ih fun y hy => h y (List.mem_cons_of_mem _ hy)
    simp only [List.flatten_cons, List.length_append, List.length_cons]
    omega
theorem sum_mk {zs : List (List Nat)} (h : ∀ z ∈ zs, z.length ≤ 1) : ((zs.map mk).map (·.length)).sum ≤ zs.length := by
  induction zs with
  | nil => simp
  | cons z zs ih =>
    have h1 := h z List.mem_cons_self
    have := ih fun y hy => h y (List.mem_cons_of_mem _ hy)
    simp only [List.map_cons, List.sum_cons, List.length_cons, len_mk]
    omega
theorem ssU_len {κ : Type} [DecidableEq κ] {lt : κ → κ → Bool} (ks : List κ) : (ssU lt ks).length ≤ ks.length := by
  have one : ∀ (x : κ) (ys : List κ), (insU lt x ys).length ≤ ys.length + 1 := by
    intro x ys
    induction ys with
    | nil => simp [insU]
    | cons y ys ih =>
      unfold insU
      split
      · simp
      · split
        · simp
        · simp; exact ih
  induction ks with
  | nil => simp [ssU]
  | cons k ks ih =>
    have := one k (ssU lt ks)
    show (insU lt k (ssU lt ks)).length ≤ _
    simp only [List.length_cons]
    omega
/-- ''.join(sorted(set(texts))) -/
theorem join_sset {zs : List (List Nat)} (h : ∀ z ∈ zs, z.length ≤ 1) (hl : zs.length ≤ 1000) : ∃ out, aSSet (.lst (zs.map fun z => Dat.str (mk z))) = some out ∧ joinOf (.str (mk [])) (.lst out) = some (.str (mk (ltrs zs))) := by
  have e1 := sset_strs (zs.map mk) (by simpa using hl)
  rw [List.map_map] at e1
  refine ⟨_, e1, ?_⟩
  have e2 : ssU ltS (zs.map mk) = (ssU ltL zs).map mk := ssU_map ltS_mk (fun a b => mk_inj) zs
  rw [e2]
  have h2 : ∀ z ∈ ssU ltL zs, z.length ≤ 1 := fun z hz => h z (mem_ssU.mp hz)
  have h3 := sum_mk h2
  have h4 := ssU_len (lt := ltL) zs
  unfold joinOf
  simp only [strsOf_map, Option.bind_some]
  rw [if_pos]
  · rw [join_mk]; rfl
  · have : (mk []).length = 0 := rfl
    rw [this]
    omega
theorem sp_letters_in (C : CA) (ss : List Stp) (h : ∀ s ∈ ss, s.2.1.length ≤ 1) (hl : ss.length ≤ 1000) : F_letters_in C none [.lst (ss.map stpD)] = .ok (.d (.str (mk (lets ss)))) none := by
  have key := lcS_map (eg := gN 1) (et := eTs (eOp aNe (eOp aIx (eVar 1) (eC (.int 1))) (eC (.str (mk []))))) (ea := eOp aIx (eVar 1) (eC (.int 1))) (vs := [1]) (s0 := [some (.d (.lst (ss.map stpD))), none]) stpD hasL (fun s => .str (mk s.2.1)) ss
    (fun a _ => ⟨[some (.d (.lst (ss.map stpD))), some (.d (stpD a))], [some (.d (.lst (ss.map stpD))), some (.d (stpD a))], by simp, by simp [stpD, mk_inj, hasL], fun _ => by simp, fun _ => ⟨[some (.d (.lst (ss.map stpD))), some (.d (stpD a))], by simp [stpD], by simp⟩⟩) [some (.d (.lst (ss.map stpD))), none] [] (by simp) (by simp; omega)
  obtain ⟨s', e, w⟩ := key
  have hf : ∀ z ∈ (ss.filter hasL).map (·.2.1), z.length ≤ 1 := fun z hz => by
    obtain ⟨s, hs, rfl⟩ := List.mem_map.mp hz
    exact h s (List.mem_filter.mp hs).1
  obtain ⟨out, e1, e2⟩ := join_sset hf (by have := List.length_filter_le hasL ss; simp only [List.length_map]; omega)
  rw [lets_of h] at e2
  rw [List.map_map] at e1
  have e1' : aSSet (.lst ((ss.filter hasL).map fun s => Dat.str (mk s.2.1))) = some out := e1
  simp only [List.nil_append] at e
  simp [F_letters_in, e, e1', e2]
end DV

set_option autoImplicit false
set_option linter.all false
set_option maxRecDepth 100000
namespace DV
open PySem L2
open PySem.W (dataLe)
theorem sp_want_begins (C : CA) (n : Int) (bs : List Int) (h0 : bs ≠ []) (h : ∀ b ∈ bs, 0 ≤ b ∧ b < n) (nd : bs.Nodup) : F_want_begins C none [.lst (bs.map Dat.int), .int n] = .ok (.d .non) none := by
  have key := forS_ex (J := Option Dat × Option Dat) (τ := Unit) (P := fun _ => True) (eg := gTu 2 (gConss (gN 2) (gConss (gN 3) gNils))) (body := sIf (eOr (eNot (eTs (eVD (eCall 2 0 (F_is_place C) (fun es _ => es) (eCons (eVar 3) (eCons (eVar 1) eNil)) eNil)))) (eTs (eOp aIn (eVar 3) (eSl (eVar 0) (eOi none) (eOi (some (eVar 2)))))))
      (fun _ => .bad)
      sNext) (fun _ j => [some (.d (.lst (bs.map Dat.int))), some (.d (.int n)), j.1.map Ow.d, j.2.map Ow.d]) (fun _ _ => ()) (fun (p : Int × Nat) => Dat.tup [.int ((p.2 : Nat) : Int), .int p.1]) bs.zipIdx (fun _ j p hp _ => by
    obtain ⟨hi, ei⟩ := zipIdx_get hp
    have hm : p.1 ∈ bs := by rw [← ei]; exact List.getElem_mem hi
    have e2 := in_int (bs := bs.take p.2) (b := p.1)
    have e3 := cut0 (ds := bs.map Dat.int) (i := p.2) (by simpa using Nat.le_of_lt hi)
    have e4 : p.1 ∉ bs.take p.2 := by rw [← ei]; exact not_in_take nd hi
    refine ⟨[some (.d (.lst (bs.map Dat.int))), some (.d (.int n)), some (.d (.int (p.2 : Nat))), some (.d (.int p.1))], (some (.int (p.2 : Nat)), some (.int p.1)), ?_, .inl ?_, trivial⟩
    · rcases j with ⟨_ | _, _ | _⟩ <;> simp
    · simp [sp_is_place, (h _ hm).1, (h _ hm).2, e3, ← List.map_take, e2, e4]) () (none, none) trivial
  obtain ⟨j', e, _⟩ := key
  simp [F_want_begins, sp_is_listL, enum_map, h0]
  simp at e
  rw [e]
/-! ### machines -/
structure Net where
  n : Int
  ss : List Stp
  bs : List Int
structure NetOk (x : Net) : Prop where
  n1 : 1 ≤ x.n
  n8 : x.n ≤ 8
  ss : ∀ s ∈ x.ss, StOk x.n s
  nd : x.ss.Nodup
  b0 : x.bs ≠ []
  bs : ∀ b ∈ x.bs, 0 ≤ b ∧ b < x.n
  bn : x.bs.Nodup
  few : x.ss.length ≤ 40
  six : (lets x.ss).length ≤ 6
def srtS (ss : List Stp) : List Stp := ss.mergeSort fun a b => dataLe false toP (stpD a) (stpD b)
def srtI (bs : List Int) : List Int := bs.mergeSort fun a b => dataLe false toP (.int a) (.int b)
theorem srtS_map (ss : List Stp) : srtD (ss.map stpD) = (srtS ss).map stpD := (List.map_mergeSort (r := fun a b => dataLe false toP (stpD a) (stpD b)) (s := dataLe false toP) (f := stpD) fun _ _ _ _ => rfl).symm
theorem srtI_map (bs : List Int) : srtD (bs.map Dat.int) = (srtI bs).map Dat.int := (List.map_mergeSort (r := fun a b => dataLe false toP (.int a) (.int b)) (s := dataLe false toP) (f := Dat.int) fun _ _ _ _ => rfl).symm
theorem srtS_perm (ss : List Stp) : (srtS ss).Perm ss := List.mergeSort_perm _ _
theorem srtI_perm (bs : List Int) : (srtI bs).Perm bs := List.mergeSort_perm _ _
theorem sortOk_stp (ss : List Stp) : sortOk (ss.map stpD) = true := by
  unfold sortOk
  rw [plains_stp]
  refine Bool.and_eq_true_iff.mpr ⟨rfl, Bool.and_eq_true_iff.mpr ⟨?_, Bool.and_eq_true_iff.mpr ⟨Bool.or_eq_true_iff.mpr (.inl ?_), ?_⟩⟩⟩
  · rw [List.all_eq_true]
    intro a ha
    rw [List.all_eq_true]
    intro b hb
    obtain ⟨s, _, rfl⟩ := List.mem_map.mp ha
    obtain ⟨t, _, rfl⟩ := List.mem_map.mp hb
    rfl
  · rw [List.all_eq_true]
    intro a ha
    obtain ⟨s, _, rfl⟩ := List.mem_map.mp ha
    rfl
  · rw [List.all_eq_true]
    intro a ha
    obtain ⟨s, _, rfl⟩ := List.mem_map.mp ha
    rfl
theorem plains_int (bs : List Int) : plains (bs.map Dat.int) = true := by
  induction bs with
  | nil => rfl
  | cons s ss ih => exact Bool.and_eq_true_iff.mpr ⟨rfl, ih⟩
theorem sortOk_int (bs : List Int) : sortOk (bs.map Dat.int) = true := by
  unfold sortOk
  rw [plains_int]
  refine Bool.and_eq_true_iff.mpr ⟨rfl, Bool.and_eq_true_iff.mpr ⟨?_, Bool.and_eq_true_iff.mpr ⟨Bool.or_eq_true_iff.mpr (.inr ?_), ?_⟩⟩⟩
  · rw [List.all_eq_true]
    intro a ha
    rw [List.all_eq_true]
    intro b hb
    obtain ⟨s, _, rfl⟩ := List.mem_map.mp ha
    obtain ⟨t, _, rfl⟩ := List.mem_map.mp hb
    rfl
  · rw [List.all_eq_true]
    intro a ha
    obtain ⟨s, _, rfl⟩ := List.mem_map.mp ha
    rfl
  · rw [List.all_eq_true]
    intro a ha
    obtain ⟨s, _, rfl⟩ := List.mem_map.mp ha
    rfl
theorem sorted_stp (ss : List Stp) : aSorted [.lst (ss.map stpD)] = some ((srtS ss).map stpD) := by
  unfold aSorted
  simp only [sortOk_stp, if_true, srtS_map]
theorem sorted_int (bs : List Int) : aSorted [.lst (bs.map Dat.int)] = some ((srtI bs).map Dat.int) := by
  unfold aSorted
  simp only [sortOk_int, if_true, srtI_map]
abbrev fldsM : List PySem.Str := ["own_places", "own_steps", "own_begins"]
def mac (C : CA) (n : Int) (ss : List Stp) (bs : List Int) : Dat := .ins C.Machine fldsM [.int n, .lst (ss.map stpD), .lst (bs.map Dat.int)]
/-- the machine of a net -/
def macD (C : CA) (x : Net) : Dat := mac C x.n (srtS x.ss) (srtI x.bs)
theorem ix_p : ixOf "own_places" fldsM = some 0 := by decide +kernel
theorem ix_s : ixOf "own_steps" fldsM = some 1 := by decide +kernel
theorem ix_b : ixOf "own_begins" fldsM = some 2 := by decide +kernel
theorem ne_ps : ¬ (("own_places" : PySem.Str) = "own_steps") := by decide +kernel
theorem ne_pb : ¬ (("own_places" : PySem.Str) = "own_begins") := by decide +kernel
theorem ne_sb : ¬ (("own_steps" : PySem.Str) = "own_begins") := by decide +kernel
theorem sp_init (C : CA) (x : Net) (h : NetOk x) : F_Machine___init__ C (some (.ins C.Machine [] [])) [.int x.n, .lst (x.ss.map stpD), .lst (x.bs.map Dat.int)] = .ok (.d .non) (some (.ins C.Machine fldsM [.int x.n, .lst ((srtS x.ss).map stpD), .lst ((srtI x.bs).map Dat.int)])) := by
  have e1 := sp_want_steps C x.n x.ss h.ss h.nd
  have e2 := sp_want_begins C x.n x.bs h.b0 h.bs h.bn
  have e3 := sp_letters_in C x.ss (fun s hs => (h.ss s hs).z.2) (Nat.le_trans h.few (by decide))
  have l1 : ¬ (40 : Int) < x.ss.length := by have := h.few; omega
  have l2 : ¬ (6 : Int) < (mk (lets x.ss)).length := by rw [len_mk]; have := h.six; omega
  have l3 : (mk (lets x.ss)).length ≤ sizeLine := by rw [len_mk]; exact Nat.le_trans h.six (by decide)
  simp [F_Machine___init__, sp_is_integer, h.n1, h.n8, e1, e2, e3, l1, l2, l3, sorted_stp, sorted_int, ne_ps, ne_pb, ne_sb]
theorem sp_places (C : CA) (n : Int) (ss : List Stp) (bs : List Int) : F_Machine_places C none [mac C n ss bs] = .ok (.d (.int n)) none := by
  simp [F_Machine_places, mac, ix_p]
theorem sp_steps (C : CA) (n : Int) (ss : List Stp) (bs : List Int) : F_Machine_steps C none [mac C n ss bs] = .ok (.d (.lst (ss.map stpD))) none := by
  simp [F_Machine_steps, mac, ix_s]
theorem sp_begins (C : CA) (n : Int) (ss : List Stp) (bs : List Int) : F_Machine_begins C none [mac C n ss bs] = .ok (.d (.lst (bs.map Dat.int))) none := by
  simp [F_Machine_begins, mac, ix_b]
theorem sp_letters (C : CA) (n : Int) (ss : List Stp) (bs : List Int) (h : ∀ s ∈ ss, s.2.1.length ≤ 1) (hl : ss.length ≤ 1000) : F_Machine_letters C none [mac C n ss bs] = .ok (.d (.str (mk (lets ss)))) none := by
  simp [F_Machine_letters, mac, ix_s, sp_letters_in C ss h hl]
@[simp] theorem ix_m1 : ixOf "steps" fldsM = none := by decide +kernel
@[simp] theorem ix_m2 : ixOf "begins" fldsM = none := by decide +kernel
@[simp] theorem sp_places' (C : CA) (n : Int) (ss : List Stp) (bs : List Int) : F_Machine_places C none [.ins C.Machine fldsM [.int n, .lst (ss.map stpD), .lst (bs.map Dat.int)]] = .ok (.d (.int n)) none := sp_places C n ss bs
@[simp] theorem sp_steps' (C : CA) (n : Int) (ss : List Stp) (bs : List Int) : F_Machine_steps C none [.ins C.Machine fldsM [.int n, .lst (ss.map stpD), .lst (bs.map Dat.int)]] = .ok (.d (.lst (ss.map stpD))) none := sp_steps C n ss bs
@[simp] theorem sp_begins' (C : CA) (n : Int) (ss : List Stp) (bs : List Int) : F_Machine_begins C none [.ins C.Machine fldsM [.int n, .lst (ss.map stpD), .lst (bs.map Dat.int)]] = .ok (.d (.lst (bs.map Dat.int))) none := sp_begins C n ss bs
end DV

set_option autoImplicit false
set_option linter.all false
set_option maxRecDepth 100000
namespace DV
open PySem L2
open PySem.W (dataLe)
/-! ### closures -/
def quiet (hs z : List Nat) : Bool := decide (∀ k ∈ z, k ∉ hs)
inductive Cl (ss : List Stp) (hs : List Nat) (S : List Int) : Int → Prop
  | base {p : Int} : p ∈ S → Cl ss hs S p
  | step {p q : Int} {z : List Nat} : Cl ss hs S p → (p, z, q) ∈ ss → quiet hs z = true → Cl ss hs S q
def go (here : Int) (hs : List Nat) (t : List Int × List Int) (s : Stp) : List Int × List Int := if s.1 = here ∧ s.2.2 ∉ t.1 ∧ quiet hs s.2.1 = true then (t.1 ++ [s.2.2], t.2 ++ [s.2.2]) else t
theorem go_fold (here : Int) (hs : List Nat) : ∀ (ss : List Stp) (t : List Int × List Int), ∃ new : List Int, ss.foldl (go here hs) t = (t.1 ++ new, t.2 ++ new) ∧ (∀ q ∈ new, q ∉ t.1 ∧ ∃ z, (here, z, q) ∈ ss ∧ quiet hs z = true) ∧ new.Nodup ∧ ∀ z q, (here, z, q) ∈ ss → quiet hs z = true → q ∈ t.1 ++ new
  | [], t => ⟨[], by simp, (fun _ h => nomatch h), List.nodup_nil, (fun _ _ h => nomatch h)⟩
  | s :: ss, t => by
    obtain ⟨new, e, h1, h2, h3⟩ := go_fold here hs ss (go here hs t s)
    by_cases hc : s.1 = here ∧ s.2.2 ∉ t.1 ∧ quiet hs s.2.1 = true
    · have eg : go here hs t s = (t.1 ++ [s.2.2], t.2 ++ [s.2.2]) := by unfold go; rw [if_pos hc]
      rw [eg] at e h1 h3
      refine ⟨s.2.2 :: new, ?_, fun q hq => ?_, ?_, fun z q hm hq => ?_⟩
      · rw [List.foldl_cons, eg, e]; simp
      · rcases List.mem_cons.mp hq with rfl | hq
        · exact ⟨hc.2.1, s.2.1, by rw [← hc.1]; exact List.mem_cons_self, hc.2.2⟩
        · obtain ⟨a, z, b, c⟩ := h1 q hq
          exact ⟨fun w => a (by simp [w]), z, List.mem_cons_of_mem _ b, c⟩
      · refine List.nodup_cons.mpr ⟨fun hm => ?_, h2⟩
        exact (h1 _ hm).1 (by simp)
      · rcases List.mem_cons.mp hm with rfl | hm
        · simp
        · have := h3 z q hm hq
          simpa using this
    · have eg : go here hs t s = t := by unfold go; rw [if_neg hc]
      rw [eg] at e h1 h3
      refine ⟨new, by rw [List.foldl_cons, eg, e], fun q hq => ?_, h2, fun z q hm hq => ?_⟩
      · obtain ⟨a, z, b, c⟩ := h1 q hq
        exact ⟨a, z, List.mem_cons_of_mem _ b, c⟩
      · rcases List.mem_cons.mp hm with rfl | hm
        · by_cases w : q ∈ t.1
          · exact List.mem_append_left _ w
          · exact absurd ⟨rfl, w, hq⟩ hc
        · exact h3 z q hm hq
theorem nodup_len {l m : List Int} (h : l.Nodup) (s : ∀ x ∈ l, x ∈ m) : l.length ≤ m.length := by
  induction l generalizing m with
  | nil => simp
  | cons a l ih =>
    obtain ⟨n1, n2⟩ := List.nodup_cons.mp h
    have := ih (m := m.erase a) n2 fun x hx => (List.mem_erase_of_ne (fun e => n1 (by rw [← e]; exact hx))).mpr (s x (List.mem_cons_of_mem _ hx))
    have ha := s a List.mem_cons_self
    rw [List.length_erase_of_mem ha] at this
    have : 0 < m.length := List.length_pos_of_mem ha
    simp only [List.length_cons]
    omega
def rngI (n : Int) : List Int := (List.range n.toNat).map fun (i : Nat) => (i : Int)
theorem mem_rngI {n x : Int} : x ∈ rngI n ↔ 0 ≤ x ∧ x < n := by
  unfold rngI
  rw [List.mem_map]
  constructor
  · rintro ⟨i, hi, rfl⟩
    have := List.mem_range.mp hi
    omega
  · rintro ⟨h1, h2⟩
    exact ⟨x.toNat, List.mem_range.mpr (by omega), by omega⟩
theorem len_rngI (n : Int) : (rngI n).length = n.toNat := by simp [rngI]
/-! the tests -/
theorem ne_nil (w : List Int) : aNe (.lst (w.map Dat.int)) (.lst []) = some (.bl (!decide (w = []))) := by
  have e : aNe (.lst (w.map Dat.int)) (.lst []) = if shp (.lst (w.map Dat.int)) = true ∧ shp (.lst []) = true then some (.bl (!PyData.eqv (toP (.lst (w.map Dat.int))) (toP (.lst [])))) else none := rfl
  rw [e, if_pos ⟨shp_ints w, rfl⟩]
  cases w with
  | nil => rfl
  | cons a w => rfl
theorem in_sgn {k : Nat} {hs : List Nat} : aInB (.str (mk [k])) (.str (mk hs)) = some (decide (k ∈ hs)) := by
  show some (decide (k ∈ (mk hs).cps.toList)) = _
  simp
/-- the loop's names -/
abbrev J3 := Option Dat × Option Dat × Option Dat
def EC (M P : Dat) (ss : List Stp) (hs : List Nat) (o6 : Option Ow) (t : List Int × List Int) (j : J3) : Env :=
  [some (.d M), some (.d (.str (mk hs))), some (.d P), some (.c false (.lst (t.1.map Dat.int))), some (.c false (.lst (t.2.map Dat.int))), some (.d (.lst (ss.map stpD))), o6, j.1.map Ow.d, j.2.1.map Ow.d, j.2.2.map Ow.d]
abbrev bC : EvS := sIf (eLoT (eAnd (eTs (eOp aEq (eVar 7) (eVar 6))) (eAnd (eTs (eOp aNotIn (eVar 9) (eVar 3))) (eOr (eTs (eOp aEq (eVar 8) (eC (.str (mk []))))) (eTs (eOp aNotIn (eVar 8) (eVar 1)))))))
      (sSeq (sDrop (eApp 3 (eVar 9)))
      (sDrop (eApp 4 (eVar 9))))
      sNext
abbrev gC3 : EvG := gTu 3 (gConss (gN 7) (gConss (gN 8) (gConss (gN 9) gNils)))
theorem turnC (M P : Dat) (ss : List Stp) (hs : List Nat) (here : Int) (t : List Int × List Int) (j : J3) (s : Stp) (hz : s.2.1.length ≤ 1) (l1 : t.1.length < 100000) (l2 : t.2.length < 100000) :
    ∃ s1 j', gC3 (stpD s) (EC M P ss hs (some (.d (.int here))) t j) = .ok () s1 ∧ bC s1 = .nx (EC M P ss hs (some (.d (.int here))) (go here hs t s) j') := by
  obtain ⟨a, z, b⟩ := s
  simp only at hz
  refine ⟨EC M P ss hs (some (.d (.int here))) t (some (.int a), some (.str (mk z)), some (.int b)), (some (.int a), some (.str (mk z)), some (.int b)), ?_, ?_⟩
  · obtain ⟨j1, j2, j3⟩ := j
    rcases j1 with _ | j1 <;> rcases j2 with _ | j2 <;> rcases j3 with _ | j3 <;> simp [EC, stpD]
  · match z, hz with
    | [], _ =>
      by_cases h1 : a = here <;> by_cases h2 : b ∈ t.1 <;> simp [EC, go, h1, h2, in_int, quiet, l1, l2]
    | [k], _ =>
      by_cases h1 : a = here <;> by_cases h2 : b ∈ t.1 <;> by_cases h3 : k ∈ hs <;> simp [EC, go, h1, h2, h3, in_int, quiet, l1, l2, mk_inj, in_sgn]
/-! sorted ints -/
theorem le_int (a b : Int) : dataLe false toP (.int a) (.int b) = decide (a ≤ b) := by
  have := PySem.W.dataLe_int (β := Int) (k := fun b => b) 
  exact congrFun (congrFun this a) b
theorem srtI_asc (bs : List Int) : (srtI bs).Pairwise (· ≤ ·) := by
  have h := List.pairwise_mergeSort (le := fun a b : Int => dataLe false toP (.int a) (.int b)) (fun a b c h1 h2 => by rw [le_int] at *; simp only [decide_eq_true_eq] at *; omega) (fun a b => by rw [le_int, le_int]; simp only [Bool.or_eq_true, decide_eq_true_eq]; omega) bs
  exact h.imp fun {a b} h => by rw [le_int, decide_eq_true_eq] at h; exact h
def Asc (l : List Int) : Prop := l.Pairwise fun a b => ltI a b = true
theorem srtI_Asc {bs : List Int} (nd : bs.Nodup) : Asc (srtI bs) := by
  have h1 := srtI_asc bs
  have h2 : (srtI bs).Nodup := (srtI_perm bs).nodup_iff.mpr nd
  exact List.Pairwise.imp₂ (fun a b h1 h2 => by simp only [ltI, decide_eq_true_eq]; omega) h1 h2
/-- what a closure is -/
structure ClOut (ss : List Stp) (hs : List Nat) (S out : List Int) : Prop where
  asc : Asc out
  mem : ∀ p, p ∈ out ↔ Cl ss hs S p
structure PC (n : Int) (ss : List Stp) (hs : List Nat) (S : List Int) (t : List Int × List Int) : Prop where
  nd : t.1.Nodup
  sub : ∀ p ∈ t.2, p ∈ t.1
  base : ∀ p ∈ S, p ∈ t.1
  cl : ∀ p ∈ t.1, Cl ss hs S p
  done : ∀ p ∈ t.1, p ∉ t.2 → ∀ z q, (p, z, q) ∈ ss → quiet hs z = true → q ∈ t.1
  rng : ∀ p ∈ t.1, 0 ≤ p ∧ p < n
  few : t.2.length ≤ t.1.length
theorem sp_closed (C : CA) (n : Int) (ss : List Stp) (bs : List Int) (hs : List Nat) (S : List Int) (P : Dat) (hP : P = .lst (S.map Dat.int) ∨ P = .tup (S.map Dat.int)) (hn : n ≤ 8) (h : ∀ s ∈ ss, StOk n s) (hS : ∀ p ∈ S, 0 ≤ p ∧ p < n) (nd : S.Nodup) :
    ∃ out, F_closed C none [mac C n ss bs, .str (mk hs), P] = .ok (.d (.tup (out.map Dat.int))) none ∧ ClOut ss hs S out := by
  have lenS : S.length ≤ 8 := by
    have := nodup_len nd (m := rngI n) fun x hx => mem_rngI.mpr (hS x hx)
    rw [len_rngI] at this
    omega
  have lenT : ∀ {t : List Int × List Int}, PC n ss hs S t → t.1.length ≤ 8 := fun {t} p => by
    have := nodup_len p.nd (m := rngI n) fun x hx => mem_rngI.mpr (p.rng x hx)
    rw [len_rngI] at this
    omega
  have key := whileS_ex (τ := List Int × List Int) (J := Option Dat × J3) (et := eLoT (eTs (eOp aNe (eVar 4) (eFz (eLst eNil))))) (body := sSeq (sAsg (ePop 4) (gN 6)) (sFor (eWalk (eVar 5)) gC3 bC)) (P := PC n ss hs S) (Done := fun t => t.2 = [])
    (fun t j => EC (mac C n ss bs) P ss hs (j.1.map Ow.d) t j.2) (fun t => 8 - t.1.length + t.2.length) (fun t j pt => by
      by_cases hw : t.2 = []
      · refine .inr ⟨?_, hw⟩
        have e := ne_nil t.2
        rw [hw] at e
        simp [EC, hw, e]
        rfl
      · obtain ⟨f, w⟩ := t
        obtain ⟨w0, here, rfl⟩ : ∃ w0 here, w = w0 ++ [here] := ⟨w.dropLast, w.getLast hw, (List.dropLast_concat_getLast hw).symm⟩
        obtain ⟨new, e1, h1, h2, h3⟩ := go_fold here hs ss (f, w0)
        have lf := lenT pt
        simp only at lf e1 h1 h2 h3
        have hin : here ∈ f := pt.sub here (by simp)
        have few := pt.few
        simp only [List.length_append, List.length_singleton] at few
        have p2 : PC n ss hs S (f ++ new, w0 ++ new) := by
          refine ⟨?_, fun p hp => ?_, fun p hp => List.mem_append_left _ (pt.base p hp), fun p hp => ?_, fun p hp hq z q hm hz => ?_, fun p hp => ?_, ?_⟩
          · exact List.nodup_append.mpr ⟨pt.nd, h2, fun a ha b hb e => (h1 b hb).1 (by rw [← e]; exact ha)⟩
          · rcases List.mem_append.mp hp with hp | hp
            · exact List.mem_append_left _ (pt.sub p (by simp [hp]))
            · exact List.mem_append_right _ hp
          · rcases List.mem_append.mp hp with hp | hp
            · exact pt.cl p hp
            · obtain ⟨_, z, hm, hz⟩ := h1 p hp
              exact .step (pt.cl here hin) hm hz
          · rcases List.mem_append.mp hp with hp | hp
            · by_cases e : p = here
              · subst e; exact h3 z q hm hz
              · refine List.mem_append_left _ (pt.done p hp (fun w => ?_) z q hm hz)
                simp only [List.mem_append, List.mem_singleton] at w
                rcases w with w | w
                · exact hq (List.mem_append_left _ w)
                · exact e w
            · exact absurd (List.mem_append_right _ hp) hq
          · rcases List.mem_append.mp hp with hp | hp
            · exact pt.rng p hp
            · obtain ⟨_, z, hm, hz⟩ := h1 p hp
              exact (h _ hm).b
          · simp only [List.length_append]; omega
        have lf2 := lenT p2
        simp only [List.length_append] at lf2
        obtain ⟨j', e3, _⟩ := forS_ex (τ := List Int × List Int) (J := J3) (eg := gC3) (body := bC) (P := fun t => t.1.Nodup ∧ (∀ p ∈ t.1, 0 ≤ p ∧ p < n) ∧ t.2.length ≤ t.1.length) (EC (mac C n ss bs) P ss hs (some (.d (.int here)))) (go here hs) stpD ss (fun t j s hs' p => by
          have lt : t.1.length ≤ 8 := by
            have := nodup_len p.1 (m := rngI n) fun x hx => mem_rngI.mpr (p.2.1 x hx)
            rw [len_rngI] at this
            omega
          have l2 := p.2.2
          obtain ⟨s1, j1, e1, e2⟩ := turnC (mac C n ss bs) P ss hs here t j s (h s hs').z.2 (by omega) (by omega)
          refine ⟨s1, j1, e1, .inl e2, ?_⟩
          unfold go
          split
          · rename_i hc
            refine ⟨List.nodup_append.mpr ⟨p.1, by simp, fun a ha b hb e => ?_⟩, fun q hq => ?_, by simp only [List.length_append]; omega⟩
            · rw [List.mem_singleton] at hb
              subst hb e
              exact hc.2.1 ha
            · rcases List.mem_append.mp hq with hq | hq
              · exact p.2.1 q hq
              · rw [List.mem_singleton] at hq
                subst hq
                exact (h s hs').b
          · exact p) (f, w0) j.2 ⟨pt.nd, pt.rng, by simp only; omega⟩
        refine .inl ⟨EC (mac C n ss bs) P ss hs (j.1.map Ow.d) (f, w0 ++ [here]) j.2, (f ++ new, w0 ++ new), (some (.int here), j'), ?_, ?_, p2, ?_⟩
        · have e := ne_nil (w0 ++ [here])
          simp at e
          simp [EC, e]
        · rw [e1] at e3
          obtain ⟨j0, j1, j2, j3⟩ := j
          rcases j0 with _ | j0 <;> simp [EC] <;> simp [EC] at e3 <;> exact e3
        · simp only [List.length_append, List.length_singleton]
          omega)
    wFuel (S, S) (none, none, none, none) ⟨nd, fun p hp => hp, fun p hp => hp, fun p hp => .base hp, fun p hp hq => absurd hp hq, hS, Nat.le_refl _⟩ (by unfold wFuel; simp only; omega)
  obtain ⟨⟨f, w⟩, j', e, pt, dn⟩ := key
  simp only at dn
  subst dn
  refine ⟨srtI f, ?_, srtI_Asc pt.nd, fun p => ?_⟩
  · simp [EC, mac] at e
    rcases hP with rfl | rfl <;> simp [F_closed, mac, e, sorted_int]
  · rw [(srtI_perm f).mem_iff]
    constructor
    · exact pt.cl p
    · intro hc
      induction hc with
      | base hp => exact pt.base _ hp
      | step _ hm hz ih => exact pt.done _ ih (fun z => nomatch z) _ _ hm hz
end DV

set_option autoImplicit false
set_option linter.all false
set_option maxRecDepth 100000
namespace DV
open PySem L2
/-! ### heard letters, places -/
theorem cut1 (l : List Nat) (h : l.length ≤ sizeLine) : cutS (mk l) (some 1) none = mk (l.drop 1) := by
  unfold cutS
  rw [show (some (1 : Int)) = some ((1 : Nat) : Int) from rfl, HT.sIx_nat, HT.sIx_none, len_mk]
  congr 2
  show (l.toArray.toList.drop (min 1 l.length)).take _ = _
  simp only [List.toList_toArray]
  by_cases q : 1 ≤ l.length
  · rw [Nat.min_eq_left q, List.take_of_length_le]
    rw [List.length_drop]
    omega
  · have : l = [] := List.eq_nil_of_length_eq_zero (by omega)
    subst this
    simp
theorem asc_mk {l : List Nat} (h : lows l) : asc (mk l) = true := by
  show (mk l).cps.all (· < 128) = true
  rw [← Array.all_toList, List.all_eq_true]
  intro k hk
  have := h k (by simpa using hk)
  exact decide_eq_true (by omega)
theorem zip_asc {κ : Type} {lt : κ → κ → Bool} : ∀ {l : List κ}, l.Pairwise (fun a b => lt a b = true) → ∀ p ∈ l.zip (l.drop 1), lt p.1 p.2 = true
  | [], _, p, h => by simp at h
  | [a], _, p, h => by simp at h
  | a :: b :: l, hp, p, h => by
    obtain ⟨h1, h2⟩ := List.pairwise_cons.mp hp
    rw [List.drop_succ_cons, List.drop_zero, List.zip_cons_cons] at h
    rcases List.mem_cons.mp h with rfl | h
    · exact h1 b List.mem_cons_self
    · exact zip_asc h2 p (by simpa using h)
structure HsOk (ss : List Stp) (hs : List Nat) : Prop where
  asc : hs.Pairwise fun a b => ltN a b = true
  low : lows hs
  sub : ∀ k ∈ hs, k ∈ lets ss
  few : hs.length ≤ 100
theorem lt_sgn (a b : Nat) : aLt (.str (sgn a)) (.str (sgn b)) = some (.bl (ltN a b)) := by
  show some (Dat.bl (decide ((sgn a).cps.toList < (sgn b).cps.toList))) = _
  rw [← ltS_sgn]; rfl
theorem dec_lt1 (a b : Nat) : decide ([a] < [b]) = ltN a b := by
  rw [← ltS_sgn]; rfl
theorem sp_is_heard (C : CA) (hs : List Nat) (ha : hs.Pairwise fun a b => ltN a b = true) (hl : lows hs) (hf : hs.length ≤ 100) : F_is_heard C none [.str (mk hs)] = .ok (.d (.bl true)) none := by
  have sz : (mk hs).length ≤ sizeLine := by rw [len_mk]; exact Nat.le_trans hf (by decide)
  have sz2 : hs.length ≤ sizeLine := Nat.le_trans hf (by decide)
  have key := lcS_map (eg := gTu 2 (gConss (gN 1) (gConss (gN 2) gNils))) (et := eYes) (ea := eOp aLt (eVar 1) (eVar 2)) (vs := [1, 2]) (s0 := [some (.d (.str (mk hs))), none, none]) (fun p : Nat × Nat => Dat.tup [.str (sgn p.1), .str (sgn p.2)]) (fun _ => true) (fun p => .bl (ltN p.1 p.2)) (hs.zip hs.tail)
    (fun p _ => ⟨[some (.d (.str (mk hs))), some (.d (.str (sgn p.1))), some (.d (.str (sgn p.2)))], [some (.d (.str (mk hs))), some (.d (.str (sgn p.1))), some (.d (.str (sgn p.2)))], by simp, by simp, fun z => (nomatch z), fun _ => ⟨[some (.d (.str (mk hs))), some (.d (.str (sgn p.1))), some (.d (.str (sgn p.2)))], by simp [dec_lt1], by simp⟩⟩) [some (.d (.str (mk hs))), none, none] [] (by simp) (by simp; omega)
  obtain ⟨s', e, w⟩ := key
  have hd : lows hs.tail := fun k hk => hl k (List.mem_of_mem_tail hk)
  have ez : zipOf [.str (mk hs), .str (mk hs.tail)] = some ((hs.zip hs.tail).map fun p => Dat.tup [.str (sgn p.1), .str (sgn p.2)]) := by
    unfold zipOf
    simp only [asc_mk hl, asc_mk hd, and_self, if_true]
  have e2 : (hs.zip hs.tail).filter (fun _ => true) = hs.zip hs.tail := by simp
  rw [e2] at e
  simp only [List.nil_append] at e
  have e3 : ((hs.zip hs.tail).map fun p => ltN p.1 p.2).all id = true := by
    rw [List.all_map, List.all_eq_true]
    exact fun p hp => zip_asc ha p (by simpa using hp)
  have e4 := boolsOf_map (fun p : Nat × Nat => ltN p.1 p.2) (hs.zip hs.tail)
  have wd := sp_is_word C hs hl (by omega)
  simp [F_is_heard, wd, cut1 hs sz2, sz, ez, e, e4, -List.all_map, e3]
end DV

set_option autoImplicit false
set_option linter.all false
set_option maxRecDepth 100000
namespace DV
open PySem L2
structure MOk (n : Int) (ss : List Stp) (bs : List Int) : Prop where
  n8 : n ≤ 8
  st : ∀ s ∈ ss, StOk n s
  few : ss.length ≤ 40
  b0 : bs ≠ []
  br : ∀ b ∈ bs, 0 ≤ b ∧ b < n
  bn : bs.Nodup
abbrev macI (C : CA) (n : Int) (ss : List Stp) (bs : List Int) : Dat := .ins C.Machine fldsM [.int n, .lst (ss.map stpD), .lst (bs.map Dat.int)]
theorem in_sgn' {k : Nat} {hs : List Nat} : aInB (.str (sgn k)) (.str (mk hs)) = some (decide (k ∈ hs)) := in_sgn
section
variable (C : CA) {n : Int} {ss : List Stp} {bs : List Int} {hs : List Nat} (m : MOk n ss bs) (h : HsOk ss hs)
include m
theorem MOk.z1 : ∀ s ∈ ss, s.2.1.length ≤ 1 := fun s hs => (m.st s hs).z.2
theorem MOk.zl : ∀ s ∈ ss, lows s.2.1 := fun s hs => (m.st s hs).z.1
theorem sp_letters1 : F_Machine_letters C none [macI C n ss bs] = .ok (.d (.str (mk (lets ss)))) none := sp_letters C n ss bs m.z1 (Nat.le_trans m.few (by decide))
include h
theorem sp_want_heard : F_want_heard C none [macI C n ss bs, .str (mk hs)] = .ok (.d .non) none := by
  have key := lcS_map (eg := gN 2) (et := eYes) (ea := eOp aIn (eVar 2) (eVD (eProp C.Machine (F_Machine_letters C) (eVar 0)))) (vs := [2]) (s0 := [some (.d (macI C n ss bs)), some (.d (.str (mk hs))), none]) (fun k => Dat.str (sgn k)) (fun _ => true) (fun k => .bl (decide (k ∈ lets ss))) hs
    (fun k _ => ⟨[some (.d (macI C n ss bs)), some (.d (.str (mk hs))), some (.d (.str (sgn k)))], [some (.d (macI C n ss bs)), some (.d (.str (mk hs))), some (.d (.str (sgn k)))], by simp, by simp, fun z => (nomatch z), fun _ => ⟨[some (.d (macI C n ss bs)), some (.d (.str (mk hs))), some (.d (.str (sgn k)))], by simp [sp_letters1 C m, in_sgn'], by simp⟩⟩) [some (.d (macI C n ss bs)), some (.d (.str (mk hs))), none] [] (by simp) (by have := h.few; simp; omega)
  obtain ⟨s', e, w⟩ := key
  have e2 : hs.filter (fun _ => true) = hs := by simp
  rw [e2] at e
  simp only [List.nil_append] at e
  have e3 : (hs.map fun k => decide (k ∈ lets ss)).all id = true := by
    rw [List.all_map, List.all_eq_true]
    exact fun k hk => decide_eq_true (h.sub k hk)
  have e4 := boolsOf_map (fun k : Nat => decide (k ∈ lets ss)) hs
  have wd := sp_is_heard C hs h.asc h.low h.few
  simp [F_want_heard, wd, e, e4, -List.all_map, e3]
omit h
theorem sp_want_place (b : Int) (h1 : 0 ≤ b) (h2 : b < n) : F_want_place C none [macI C n ss bs, .int b] = .ok (.d .non) none := by
  simp [F_want_place, sp_is_place, h1, h2]
end
/-! ### what is reached by a word -/
inductive Rch (ss : List Stp) (hs : List Nat) (bs : List Int) : List Nat → Int → Prop
  | base {p : Int} : p ∈ bs → Rch ss hs bs [] p
  | sil {w : List Nat} {p q : Int} {z : List Nat} : Rch ss hs bs w p → (p, z, q) ∈ ss → quiet hs z = true → Rch ss hs bs w q
  | say {w : List Nat} {p q : Int} {k : Nat} : Rch ss hs bs w p → (p, [k], q) ∈ ss → k ∈ hs → Rch ss hs bs (w ++ [k]) q
structure IsCh (ss : List Stp) (hs : List Nat) (bs : List Int) (w : List Nat) (out : List Int) : Prop where
  asc : Asc out
  mem : ∀ p, p ∈ out ↔ Rch ss hs bs w p
section
variable {n : Int} {ss : List Stp} {bs : List Int} {hs : List Nat}
theorem rch_cl {w : List Nat} {S : List Int} (h : ∀ p ∈ S, Rch ss hs bs w p) {p : Int} (c : Cl ss hs S p) : Rch ss hs bs w p := by
  induction c with
  | base hp => exact h _ hp
  | step _ hm hz ih => exact .sil ih hm hz
theorem rch_nil {w : List Nat} {p : Int} (r : Rch ss hs bs w p) : w = [] → Cl ss hs bs p := by
  induction r with
  | base hp => exact fun _ => .base hp
  | sil _ hm hz ih => exact fun e => .step (ih e) hm hz
  | say _ _ _ _ => exact fun e => by simp at e
theorem rch_say {w : List Nat} {k : Nat} {ch : List Int} (hc : ∀ p, p ∈ ch ↔ Rch ss hs bs w p) {v : List Nat} {p : Int} (r : Rch ss hs bs v p) : v = w ++ [k] → k ∈ hs ∧ ∀ S : List Int, (∀ q, q ∈ S ↔ ∃ a ∈ ch, (a, [k], q) ∈ ss) → Cl ss hs S p := by
  induction r with
  | base hp => exact fun e => by simp at e
  | sil _ hm hz ih => exact fun e => ⟨(ih e).1, fun S hS => .step ((ih e).2 S hS) hm hz⟩
  | @say w' a q k' ra hm hk ih =>
    intro e
    obtain ⟨e1, e2⟩ := List.append_inj' e rfl
    cases e2
    subst e1
    exact ⟨hk, fun S hS => .base ((hS q).mpr ⟨a, (hc a).mpr ra, hm⟩)⟩
theorem isCh_begin {out : List Int} (c : ClOut ss hs bs out) : IsCh ss hs bs [] out := ⟨c.asc, fun p => (c.mem p).trans ⟨rch_cl fun p hp => .base hp, fun r => rch_nil r rfl⟩⟩
theorem isCh_after {w : List Nat} {k : Nat} {ch S out : List Int} (hc : IsCh ss hs bs w ch) (hk : k ∈ hs) (hS : ∀ q, q ∈ S ↔ ∃ a ∈ ch, (a, [k], q) ∈ ss) (c : ClOut ss hs S out) : IsCh ss hs bs (w ++ [k]) out :=
  ⟨c.asc, fun p => (c.mem p).trans ⟨rch_cl fun q hq => let ⟨a, ha, hm⟩ := (hS q).mp hq; .say ((hc.mem a).mp ha) hm hk, fun r => (rch_say hc.mem r rfl).2 S hS⟩⟩
theorem isCh_one {w : List Nat} {a b : List Int} (h1 : IsCh ss hs bs w a) (h2 : IsCh ss hs bs w b) : a = b := asc_one ltI_ok h1.asc h2.asc fun p => (h1.mem p).trans (h2.mem p).symm
theorem isCh_closed {w : List Nat} {a b : List Int} (h1 : IsCh ss hs bs w a) (h2 : ClOut ss hs a b) : b = a := asc_one ltI_ok h2.asc h1.asc fun p => (h2.mem p).trans ⟨fun c => (h1.mem p).mpr (rch_cl (fun q hq => (h1.mem q).mp hq) c), fun hp => .base hp⟩
/-- what can be said next -/
def inCh (ch : List Int) (s : Stp) : Bool := decide (s.1 ∈ ch ∧ s.2.1 ≠ [])
def saidL (ss : List Stp) (ch : List Int) : List (List Nat) := (ss.filter (inCh ch)).map (·.2.1)
def canSay (ss : List Stp) (ch : List Int) (k : Nat) : Bool := decide ([k] ∈ saidL ss ch)
theorem canSay_iff {ch : List Int} {k : Nat} : canSay ss ch k = true ↔ ∃ a ∈ ch, ∃ q, (a, [k], q) ∈ ss := by
  unfold canSay saidL
  rw [decide_eq_true_eq, List.mem_map]
  constructor
  · rintro ⟨⟨a, z, q⟩, hs, e⟩
    obtain ⟨h1, h2⟩ := List.mem_filter.mp hs
    simp only at e
    subst e
    exact ⟨a, (of_decide_eq_true h2).1, q, h1⟩
  · rintro ⟨a, ha, q, hm⟩
    exact ⟨(a, [k], q), List.mem_filter.mpr ⟨hm, decide_eq_true ⟨ha, by simp⟩⟩, rfl⟩
def nextL (ss : List Stp) (hs : List Nat) (ch : List Int) : List Nat := hs.filter (canSay ss ch)
theorem mem_nextL {w : List Nat} {ch : List Int} (hc : IsCh ss hs bs w ch) {k : Nat} : k ∈ nextL ss hs ch ↔ ∃ q, Rch ss hs bs (w ++ [k]) q := by
  unfold nextL
  rw [List.mem_filter, canSay_iff]
  constructor
  · rintro ⟨hk, a, ha, q, hm⟩
    exact ⟨q, .say ((hc.mem a).mp ha) hm hk⟩
  · rintro ⟨q, r⟩
    obtain ⟨hk, hS⟩ := rch_say hc.mem r rfl
    refine ⟨hk, ?_⟩
    -- some step was taken: else nothing would be reached
    have : ∀ {v : List Nat} {p : Int}, Rch ss hs bs v p → v = w ++ [k] → ∃ a ∈ ch, ∃ q, (a, [k], q) ∈ ss := by
      intro v p r
      induction r with
      | base hp => exact fun e => by simp at e
      | sil _ _ _ ih => exact ih
      | @say w' a q k' ra hm hk ih =>
        intro e
        obtain ⟨e1, e2⟩ := List.append_inj' e rfl
        cases e2
        subst e1
        exact ⟨a, (hc.mem a).mpr ra, q, hm⟩
    exact this r rfl
/-- a word that goes on from nothing leads nowhere -/
theorem rch_pre {w v : List Nat} {p : Int} (r : Rch ss hs bs (w ++ v) p) : ∃ q, Rch ss hs bs w q := by
  have : ∀ {x : List Nat} {p : Int}, Rch ss hs bs x p → ∀ w v, x = w ++ v → ∃ q, Rch ss hs bs w q := by
    intro x p r
    induction r with
    | @base p hp => exact fun w v e => ⟨p, by
        have : w = [] := (List.append_eq_nil_iff.mp e.symm).1
        subst this; exact .base hp⟩
    | sil _ _ _ ih => exact ih
    | @say w' a q k' ra hm hk ih =>
      intro w v e
      rcases List.eq_nil_or_concat v with rfl | ⟨v', x, rfl⟩
      · rw [List.append_nil] at e
        exact ⟨q, by rw [← e]; exact .say ra hm hk⟩
      · rw [List.concat_eq_append, ← List.append_assoc] at e
        exact ih w v' (List.append_inj' e rfl).1
  exact this r w v rfl
end
end DV

set_option autoImplicit false
set_option linter.all false
set_option maxRecDepth 100000
namespace DV
open PySem L2
theorem sset_ints (ks : List Int) (h : ks.length ≤ 1000) : aSSet (.lst (ks.map Dat.int)) = some ((ssU ltI ks).map Dat.int) := by
  unfold aSSet
  simp only [List.length_map]
  rw [if_pos h]
  simp only [intsOf_map]
theorem ssU_nodup (ks : List Int) : (ssU ltI ks).Nodup := (asc_ssU ltI_ok).imp fun {a b} h e => by subst e; rw [ltI_ok.ir] at h; cases h
theorem eqv_strs (z : List Nat) (k : Nat) : PyData.eqv (toP (.str (mk z))) (toP (.str (mk [k]))) = decide (z = [k]) := by
  show ((mk z) == (mk [k])) = _
  rw [Bool.eq_iff_iff]
  simp
theorem in_strL {zs : List (List Nat)} {k : Nat} (h : ∀ z ∈ zs, lows z) (hk : lows [k]) : aInB (.str (sgn k)) (.lst (zs.map fun z => Dat.str (mk z))) = some (decide ([k] ∈ zs)) := by
  have s1 : shp (.str (sgn k)) = true := by
    refine Bool.and_eq_true_iff.mpr ⟨rfl, Bool.and_eq_true_iff.mpr ⟨?_, rfl⟩⟩
    exact lows_ok hk
  have p : plains (zs.map fun z => Dat.str (mk z)) = true := by
    clear h
    induction zs with
    | nil => rfl
    | cons s ss ih => exact Bool.and_eq_true_iff.mpr ⟨rfl, ih⟩
  have l : PyData.canLayAll0 (toPs (zs.map fun z => Dat.str (mk z))) = true := by
    clear p
    induction zs with
    | nil => rfl
    | cons s ss ih => exact Bool.and_eq_true_iff.mpr ⟨lows_ok (h s List.mem_cons_self), ih fun x hx => h x (List.mem_cons_of_mem _ hx)⟩
  have d : PyData.depthAll (toPs (zs.map fun z => Dat.str (mk z))) ≤ 1 := by
    clear p l h
    induction zs with
    | nil => exact Nat.zero_le _
    | cons s ss ih => exact Nat.max_le.mpr ⟨Nat.zero_le _, ih⟩
  have s2 : shp (.lst (zs.map fun z => Dat.str (mk z))) = true := by
    refine Bool.and_eq_true_iff.mpr ⟨p, Bool.and_eq_true_iff.mpr ⟨l, decide_eq_true ?_⟩⟩
    show PyData.depthAll (toPs (zs.map fun z => Dat.str (mk z))) + 1 ≤ 64
    omega
  have e : aInB (.str (sgn k)) (.lst (zs.map fun z => Dat.str (mk z))) = if shp (.str (sgn k)) = true ∧ shp (.lst (zs.map fun z => Dat.str (mk z))) = true then some (anyEq (zs.map fun z => Dat.str (mk z)) (.str (sgn k))) else none := rfl
  rw [e, if_pos ⟨s1, s2⟩]
  congr 1
  unfold anyEq
  rw [List.any_map, Bool.eq_iff_iff, List.any_eq_true, decide_eq_true_eq]
  constructor
  · rintro ⟨z, hz, e⟩
    have := eqv_strs z k
    rw [show PyData.eqv (toP (.str (mk z))) (toP (.str (mk [k]))) = true from e] at this
    rw [← of_decide_eq_true this.symm]
    exact hz
  · intro hz
    exact ⟨[k], hz, by have := eqv_strs [k] k; rw [decide_eq_true rfl] at this; exact this⟩
theorem eqv_intsAll (l : List Int) : PyData.eqvAll (toPs (l.map Dat.int)) (toPs (l.map Dat.int)) = true := by
  induction l with
  | nil => rfl
  | cons a l ih =>
    show ((a == a) && _) = true
    rw [ih]; simp
theorem shp_intsT (bs : List Int) : shp (.tup (bs.map Dat.int)) = true := shp_ints bs
theorem eq_intsT (l : List Int) : aEq (.tup (l.map Dat.int)) (.tup (l.map Dat.int)) = some (.bl true) := by
  have e : aEq (.tup (l.map Dat.int)) (.tup (l.map Dat.int)) = if shp (.tup (l.map Dat.int)) = true ∧ shp (.tup (l.map Dat.int)) = true then some (.bl (PyData.eqv (toP (.tup (l.map Dat.int))) (toP (.tup (l.map Dat.int))))) else none := rfl
  rw [e, if_pos ⟨shp_intsT l, shp_intsT l⟩]
  congr 2
  exact eqv_intsAll l
section
variable (C : CA) {n : Int} {ss : List Stp} {bs : List Int} {hs : List Nat} (m : MOk n ss bs) (h : HsOk ss hs)
include m
theorem len_of {l : List Int} (nd : l.Nodup) (hl : ∀ p ∈ l, 0 ≤ p ∧ p < n) : l.length ≤ 8 := by
  have := nodup_len nd (m := rngI n) fun x hx => mem_rngI.mpr (hl x hx)
  rw [len_rngI] at this
  have := m.n8
  omega
theorem asc_nodup {l : List Int} (a : Asc l) : l.Nodup := a.imp fun {a b} h e => by subst e; rw [ltI_ok.ir] at h; cases h
theorem isCh_rng {w : List Nat} {ch : List Int} (c : IsCh ss hs bs w ch) : ∀ p ∈ ch, 0 ≤ p ∧ p < n := fun p hp => by
  have : ∀ {w : List Nat} {p : Int}, Rch ss hs bs w p → 0 ≤ p ∧ p < n := by
    intro w p r
    induction r with
    | base hp => exact m.br _ hp
    | sil _ hm _ _ => exact (m.st _ hm).b
    | say _ hm _ _ => exact (m.st _ hm).b
  exact this ((c.mem p).mp hp)
/-- letters_next -/
theorem sp_letters_next (hl : lows hs) (hf : hs.length ≤ 100) (ch : List Int) : F_letters_next C none [macI C n ss bs, .str (mk hs), .tup (ch.map Dat.int)] = .ok (.d (.str (mk (nextL ss hs ch)))) none := by
  let E0 : List (Option Ow) := [some (.d (macI C n ss bs)), some (.d (.str (mk hs))), some (.d (.tup (ch.map Dat.int)))]
  have key := lcS_map (eg := gTu 3 (gConss (gN 4) (gConss (gN 5) (gConss (gN 6) gNils)))) (et := eAnd (eTs (eOp aIn (eVar 4) (eVar 2))) (eTs (eOp aNe (eVar 5) (eC (.str (mk [])))))) (ea := eVar 5) (vs := [4, 5, 6]) (s0 := E0 ++ [none, none, none, none]) stpD (inCh ch) (fun s => .str (mk s.2.1)) ss
    (fun s _ => ⟨E0 ++ [none, some (.d (.int s.1)), some (.d (.str (mk s.2.1))), some (.d (.int s.2.2))], E0 ++ [none, some (.d (.int s.1)), some (.d (.str (mk s.2.1))), some (.d (.int s.2.2))], by simp [E0, stpD], by
      by_cases a : s.1 ∈ ch <;> by_cases b : s.2.1 = [] <;> simp [E0, in_intT, a, b, mk_inj, inCh], fun _ => by simp [E0], fun _ => ⟨E0 ++ [none, some (.d (.int s.1)), some (.d (.str (mk s.2.1))), some (.d (.int s.2.2))], by simp [E0], by simp [E0]⟩⟩) (E0 ++ [none, none, none, none]) [] (by simp [E0]) (by have := m.few; simp; omega)
  obtain ⟨s', e, w⟩ := key
  simp only [List.nil_append] at e
  have ez : (ss.filter (inCh ch)).map (fun s => Dat.str (mk s.2.1)) = (saidL ss ch).map fun z => Dat.str (mk z) := by simp [saidL]
  rw [ez] at e
  have hz : ∀ z ∈ saidL ss ch, lows z := fun z hz => by
    obtain ⟨s, hs, rfl⟩ := List.mem_map.mp hz
    exact m.zl s (List.mem_filter.mp hs).1
  let E1 : List (Option Ow) := E0 ++ [some (.d (.lst ((saidL ss ch).map fun z => Dat.str (mk z))))]
  have key2 := lcS_map (eg := gN 5) (et := eTs (eOp aIn (eVar 5) (eVar 3))) (ea := eVar 5) (vs := [5]) (s0 := E1 ++ [none, none, none]) (fun k => Dat.str (sgn k)) (canSay ss ch) (fun k => .str (sgn k)) hs
    (fun k hk => ⟨E1 ++ [none, some (.d (.str (sgn k))), none], E1 ++ [none, some (.d (.str (sgn k))), none], by simp [E1, E0], by
      have e1 := in_strL hz (k := k) (fun x hx => by rw [List.mem_singleton] at hx; subst hx; exact hl x hk)
      simp [E1, E0, e1, canSay], fun _ => by simp [E1, E0], fun _ => ⟨E1 ++ [none, some (.d (.str (sgn k))), none], by simp [E1, E0], by simp [E1, E0]⟩⟩) (E1 ++ [none, none, none]) [] (by simp [E1, E0]) (by simp; omega)
  obtain ⟨s2, e2, w2⟩ := key2
  simp only [List.nil_append] at e2
  have e3 : joinOf (.str (mk [])) (.lst ((hs.filter (canSay ss ch)).map fun k => Dat.str (sgn k))) = some (.str (mk (nextL ss hs ch))) := by
    have e4 := strsOf_map ((hs.filter (canSay ss ch)).map sgn)
    rw [List.map_map] at e4
    have e4' : strsOf ((hs.filter (canSay ss ch)).map fun k => Dat.str (sgn k)) = some ((hs.filter (canSay ss ch)).map sgn) := e4
    unfold joinOf
    simp only [e4', Option.bind_some]
    rw [if_pos, join_sgn]
    · rfl
    · rw [join_len]
      have : (mk []).length = 0 := rfl
      rw [this]
      have := List.length_filter_le (canSay ss ch) hs
      omega
  have w' : wipeE s' [4, 5, 6] = E0 ++ [none, none, none, none] := w
  simp [E0] at w'
  simp [E0, E1] at e e2
  simp [F_letters_next, e, w', e2, e3]
end
end DV

set_option autoImplicit false
set_option linter.all false
set_option maxRecDepth 100000
namespace DV
open PySem L2
abbrev iT (l : List Int) : Dat := .tup (l.map Dat.int)
section
variable (C : CA) {n : Int} {ss : List Stp} {bs : List Int} {hs : List Nat} (m : MOk n ss bs)
include m
theorem sp_closedI (hs : List Nat) (S : List Int) (P : Dat) (hP : P = .lst (S.map Dat.int) ∨ P = iT S) (hS : ∀ p ∈ S, 0 ≤ p ∧ p < n) (nd : S.Nodup) : ∃ out, F_closed C none [macI C n ss bs, .str (mk hs), P] = .ok (.d (iT out)) none ∧ ClOut ss hs S out :=
  sp_closed C n ss bs hs S P hP m.n8 m.st hS nd
theorem sp_beginning (hs : List Nat) : ∃ out, F_beginning C none [macI C n ss bs, .str (mk hs)] = .ok (.d (iT out)) none ∧ IsCh ss hs bs [] out := by
  obtain ⟨out, e, c⟩ := sp_closedI C m hs bs (.lst (bs.map Dat.int)) (.inl rfl) m.br m.bn
  exact ⟨out, by simp [F_beginning, e], isCh_begin c⟩
theorem sp_chart_after {w : List Nat} {ch : List Int} (c : IsCh ss hs bs w ch) {k : Nat} (hk : k ∈ hs) : ∃ out, F_chart_after C none [macI C n ss bs, .str (mk hs), iT ch, .str (sgn k)] = .ok (.d (iT out)) none ∧ IsCh ss hs bs (w ++ [k]) out := by
  let E0 : List (Option Ow) := [some (.d (macI C n ss bs)), some (.d (.str (mk hs))), some (.d (iT ch)), some (.d (.str (sgn k)))]
  let t1 : Stp → Bool := fun s => decide (s.1 ∈ ch) && decide (s.2.1 = [k])
  have key := lcS_map (eg := gTu 3 (gConss (gN 5) (gConss (gN 6) (gConss (gN 7) gNils)))) (et := eAnd (eTs (eOp aIn (eVar 5) (eVar 2))) (eTs (eOp aEq (eVar 6) (eVar 3)))) (ea := eVar 7) (vs := [5, 6, 7]) (s0 := E0 ++ [none, none, none, none]) stpD t1 (fun s => .int s.2.2) ss
    (fun s _ => ⟨E0 ++ [none, some (.d (.int s.1)), some (.d (.str (mk s.2.1))), some (.d (.int s.2.2))], E0 ++ [none, some (.d (.int s.1)), some (.d (.str (mk s.2.1))), some (.d (.int s.2.2))], by simp [E0, stpD], by
      have e9 : (mk s.2.1 = sgn k) = (s.2.1 = [k]) := by rw [show sgn k = mk [k] from rfl, mk_inj]
      by_cases a : s.1 ∈ ch <;> simp [E0, in_intT, a, e9, t1], fun _ => by simp [E0], fun _ => ⟨E0 ++ [none, some (.d (.int s.1)), some (.d (.str (mk s.2.1))), some (.d (.int s.2.2))], by simp [E0], by simp [E0]⟩⟩) (E0 ++ [none, none, none, none]) [] (by simp [E0]) (by have := m.few; simp; omega)
  obtain ⟨s', e, w'⟩ := key
  simp only [List.nil_append] at e
  obtain ⟨gs, hgs⟩ : ∃ gs, gs = (ss.filter t1).map (·.2.2) := ⟨_, rfl⟩
  have eg : (ss.filter t1).map (fun s => Dat.int s.2.2) = gs.map Dat.int := by rw [hgs]; simp
  rw [eg] at e
  have hm : ∀ q, q ∈ ssU ltI gs ↔ ∃ a ∈ ch, (a, [k], q) ∈ ss := fun q => by
    rw [mem_ssU, hgs, List.mem_map]
    constructor
    · rintro ⟨⟨a, z, b⟩, hs', e⟩
      obtain ⟨h1, h2⟩ := List.mem_filter.mp hs'
      simp only [t1, Bool.and_eq_true, decide_eq_true_eq] at h2
      simp only at e
      subst e
      obtain ⟨h3, rfl⟩ := h2
      exact ⟨a, h3, h1⟩
    · rintro ⟨a, ha, hm⟩
      exact ⟨(a, [k], q), List.mem_filter.mpr ⟨hm, by simp [t1, ha]⟩, rfl⟩
  have hl : gs.length ≤ 1000 := by
    rw [hgs, List.length_map]
    have := List.length_filter_le t1 ss
    have := m.few
    omega
  obtain ⟨out, e2, c2⟩ := sp_closedI C m hs (ssU ltI gs) (.lst ((ssU ltI gs).map Dat.int)) (.inl rfl) (fun q hq => by
    obtain ⟨a, _, hm⟩ := (hm q).mp hq
    exact (m.st _ hm).b) (ssU_nodup gs)
  refine ⟨out, ?_, isCh_after c hk hm c2⟩
  have e3 := sset_ints gs hl
  have w2 : wipeE s' [5, 6, 7] = E0 ++ [none, none, none, none] := w'
  simp [E0] at w2
  simp [E0] at e
  simp [F_chart_after, e, e3, w2, e2]
theorem sp_is_tuple {ch : List Int} (hne : ch ≠ []) (hr : ∀ p ∈ ch, 0 ≤ p ∧ p < n) (ha : Asc ch) : F_is_tuple_of_places C none [iT ch, .int n] = .ok (.d (.bl true)) none := by
  have hl := len_of m (asc_nodup m ha) hr
  have key := lcS_map (eg := gN 2) (et := eYes) (ea := eVD (eCall 2 0 (F_is_place C) (fun es _ => es) (eCons (eVar 2) (eCons (eVar 1) eNil)) eNil)) (vs := [2]) (s0 := [some (.d (iT ch)), some (.d (.int n)), none, none, none]) Dat.int (fun _ => true) (fun p => .bl (decide (0 ≤ p) && decide (p < n))) ch
    (fun p _ => ⟨[some (.d (iT ch)), some (.d (.int n)), some (.d (.int p)), none, none], [some (.d (iT ch)), some (.d (.int n)), some (.d (.int p)), none, none], by simp, by simp, fun z => (nomatch z), fun _ => ⟨[some (.d (iT ch)), some (.d (.int n)), some (.d (.int p)), none, none], by simp [sp_is_place], by simp⟩⟩) [some (.d (iT ch)), some (.d (.int n)), none, none, none] [] (by simp) (by simp; omega)
  obtain ⟨s1, e1, w1⟩ := key
  have key2 := lcS_map (eg := gTu 2 (gConss (gN 3) (gConss (gN 4) gNils))) (et := eYes) (ea := eOp aLt (eVar 3) (eVar 4)) (vs := [3, 4]) (s0 := [some (.d (iT ch)), some (.d (.int n)), none, none, none]) (fun p : Int × Int => Dat.tup [.int p.1, .int p.2]) (fun _ => true) (fun p => .bl (ltI p.1 p.2)) (ch.zip ch.tail)
    (fun p _ => ⟨[some (.d (iT ch)), some (.d (.int n)), none, some (.d (.int p.1)), some (.d (.int p.2))], [some (.d (iT ch)), some (.d (.int n)), none, some (.d (.int p.1)), some (.d (.int p.2))], by simp, by simp, fun z => (nomatch z), fun _ => ⟨[some (.d (iT ch)), some (.d (.int n)), none, some (.d (.int p.1)), some (.d (.int p.2))], by simp [ltI], by simp⟩⟩) [some (.d (iT ch)), some (.d (.int n)), none, none, none] [] (by simp) (by simp; omega)
  obtain ⟨s2, e2, w2⟩ := key2
  have f1 : ch.filter (fun _ => true) = ch := by simp
  have f2 : (ch.zip ch.tail).filter (fun _ => true) = ch.zip ch.tail := by simp
  rw [f1] at e1
  rw [f2] at e2
  simp only [List.nil_append] at e1 e2
  have b1 := boolsOf_map (fun p : Int => decide (0 ≤ p) && decide (p < n)) ch
  have b2 := boolsOf_map (fun p : Int × Int => ltI p.1 p.2) (ch.zip ch.tail)
  have a1 : (ch.map fun p => decide (0 ≤ p) && decide (p < n)).all id = true := by
    rw [List.all_map, List.all_eq_true]
    exact fun p hp => by simp [(hr p hp).1, (hr p hp).2]
  have a2 : ((ch.zip ch.tail).map fun p => ltI p.1 p.2).all id = true := by
    rw [List.all_map, List.all_eq_true]
    exact fun p hp => zip_asc ha p (by simpa using hp)
  have ez : zipOf [iT ch, Dat.tup (List.map Dat.int ch).tail] = some ((ch.zip ch.tail).map fun p => Dat.tup [.int p.1, .int p.2]) := by
    have t : (ch.map Dat.int).tail = ch.tail.map Dat.int := by cases ch <;> rfl
    show some (((ch.map Dat.int).zip (ch.map Dat.int).tail).map fun p => Dat.tup [p.1, p.2]) = _
    rw [t, List.zip_map, List.map_map]; rfl
  have ec : cutD (ch.map Dat.int) (some 1) none = ch.tail.map Dat.int := by
    have hc : 1 ≤ ch.length := by cases ch with
      | nil => exact absurd rfl hne
      | cons a l => simp
    unfold cutD
    rw [show (some (1 : Int)) = some ((1 : Nat) : Int) from rfl, HT.sIx_nat, HT.sIx_none, List.length_map, Nat.min_eq_left hc, List.drop_one, List.take_of_length_le]
    · simp
    · simp
  have w1' : wipeE s1 [2] = [some (.d (iT ch)), some (.d (.int n)), none, none, none] := w1
  simp at w1'
  simp [F_is_tuple_of_places, hne, e1, b1, -List.all_map, a1, w1', ec, ez, e2, b2, a2]
end
end DV

set_option autoImplicit false
set_option linter.all false
set_option maxRecDepth 100000
namespace DV
open PySem L2
section
variable (C : CA) {n : Int} {ss : List Stp} {bs : List Int} {hs : List Nat} (m : MOk n ss bs)
include m
theorem isCh_ne {w : List Nat} {ch : List Int} (c : IsCh ss hs bs w ch) {p : Int} (r : Rch ss hs bs w p) : ch ≠ [] := fun e => by
  have := (c.mem p).mpr r
  rw [e] at this
  cases this
variable (h : HsOk ss hs)
include h
theorem sp_is_chart {w : List Nat} {ch : List Int} (c : IsCh ss hs bs w ch) (hne : ch ≠ []) : F_is_chart C none [macI C n ss bs, .str (mk hs), iT ch] = .ok (.d (.bl true)) none := by
  obtain ⟨out, e, co⟩ := sp_closedI C m hs ch (iT ch) (.inr rfl) (isCh_rng m c) (asc_nodup m c.asc)
  have := isCh_closed c co
  subst this
  have e1 := sp_want_heard C m h
  have e2 := sp_is_tuple C m hne (isCh_rng m c) c.asc
  have e3 : PyData.eqv (toP (iT out)) (toP (iT out)) = true := eqv_intsAll out
  have e4 : shp (iT out) = true := shp_intsT out
  simp [F_is_chart, e1, e2, e, e3, e4]
theorem sp_want_chart {w : List Nat} {ch : List Int} (c : IsCh ss hs bs w ch) (hne : ch ≠ []) : F_want_chart C none [macI C n ss bs, .str (mk hs), iT ch] = .ok (.d .non) none := by
  simp [F_want_chart, sp_is_chart C m h c hne]
theorem sp_first_chart : ∃ out, F_first_chart C none [macI C n ss bs, .str (mk hs)] = .ok (.d (iT out)) none ∧ IsCh ss hs bs [] out := by
  obtain ⟨out, e, c⟩ := sp_beginning C m hs
  exact ⟨out, by simp [F_first_chart, sp_want_heard C m h, e], c⟩
theorem sp_next_letters {w : List Nat} {ch : List Int} (c : IsCh ss hs bs w ch) (hne : ch ≠ []) : F_next_letters C none [macI C n ss bs, .str (mk hs), iT ch] = .ok (.d (.str (mk (nextL ss hs ch)))) none := by
  simp [F_next_letters, sp_want_chart C m h c hne, sp_letters_next C m h.low h.few ch]
/-- the answer to a word: None where nothing is reached -/
def ChA (ss : List Stp) (hs : List Nat) (bs : List Int) (w : List Nat) (d : Dat) : Prop := (d = .non ∧ ∀ p, ¬ Rch ss hs bs w p) ∨ ∃ ch, d = iT ch ∧ ch ≠ [] ∧ IsCh ss hs bs w ch
theorem sp_chart_then {w : List Nat} {ch : List Int} (c : IsCh ss hs bs w ch) (hne : ch ≠ []) {k : Nat} (hk : 97 ≤ k ∧ k ≤ 122) : ∃ d, F_chart_then C none [macI C n ss bs, .str (mk hs), iT ch, .str (sgn k)] = .ok (.d d) none ∧ ChA ss hs bs (w ++ [k]) d := by
  have e1 := sp_want_chart C m h c hne
  have e2 := sp_want_letter C k hk
  have e3 := sp_letters_next C m h.low h.few ch
  by_cases hk2 : k ∈ nextL ss hs ch
  · have hkh : k ∈ hs := (List.mem_filter.mp hk2).1
    obtain ⟨out, e4, c4⟩ := sp_chart_after C m c hkh
    obtain ⟨q, r⟩ := (mem_nextL c).mp hk2
    exact ⟨iT out, by simp [F_chart_then, e1, e2, e3, in_sgn', hk2, e4], .inr ⟨out, rfl, isCh_ne m c4 r, c4⟩⟩
  · exact ⟨.non, by simp [F_chart_then, e1, e2, e3, in_sgn', hk2], .inl ⟨rfl, fun p r => hk2 ((mem_nextL c).mpr ⟨p, r⟩)⟩⟩
/-- led_by, from a chart on -/
theorem sp_led_by {w : List Nat} {ch : List Int} (c : IsCh ss hs bs w ch) (hne : ch ≠ []) (v : List Nat) : ∃ d, F_led_by C none [macI C n ss bs, .str (mk hs), iT ch, .str (mk v)] = .ok (.d d) none ∧ ChA ss hs bs (w ++ v) d := by
  let E1 : Dat → Option Dat → Env := fun c j => [some (.d (macI C n ss bs)), some (.d (.str (mk hs))), some (.d (iT ch)), some (.d (.str (mk v))), some (.d c), j.map Ow.d]
  have key : ∀ (v w : List Nat) (c : List Int) (j : Option Dat), IsCh ss hs bs w c → c ≠ [] →
      (∃ j', forS (gN 5) (sSeq (sIf (eTs (eOp aNotIn (eVar 5) (eVD (eCall 3 0 (F_letters_next C) (fun es _ => es) (eCons (eVar 0) (eCons (eVar 1) (eCons (eVar 4) eNil))) eNil))))
      (sRetD (eC .non))
      sNext)
      (sAsg (eVD (eCall 4 0 (F_chart_after C) (fun es _ => es) (eCons (eVar 0) (eCons (eVar 1) (eCons (eVar 4) (eCons (eVar 5) eNil)))) eNil)) (gN 4))) (v.map fun k => Dat.str (sgn k)) (E1 (iT c) j) = .rt (.d .non) j' ∧ ∀ p, ¬ Rch ss hs bs (w ++ v) p) ∨
      ∃ c' j', forS (gN 5) (sSeq (sIf (eTs (eOp aNotIn (eVar 5) (eVD (eCall 3 0 (F_letters_next C) (fun es _ => es) (eCons (eVar 0) (eCons (eVar 1) (eCons (eVar 4) eNil))) eNil))))
      (sRetD (eC .non))
      sNext)
      (sAsg (eVD (eCall 4 0 (F_chart_after C) (fun es _ => es) (eCons (eVar 0) (eCons (eVar 1) (eCons (eVar 4) (eCons (eVar 5) eNil)))) eNil)) (gN 4))) (v.map fun k => Dat.str (sgn k)) (E1 (iT c) j) = .nx (E1 (iT c') j') ∧ c' ≠ [] ∧ IsCh ss hs bs (w ++ v) c' := by
    intro v
    induction v with
    | nil => exact fun w c j ic ne => .inr ⟨c, j, rfl, ne, by rw [List.append_nil]; exact ic⟩
    | cons k v ih =>
      intro w c j ic ne
      have e3 := sp_letters_next C m h.low h.few c
      by_cases hk2 : k ∈ nextL ss hs c
      · have hkh : k ∈ hs := (List.mem_filter.mp hk2).1
        obtain ⟨out, e4, c4⟩ := sp_chart_after C m ic hkh
        obtain ⟨q, r⟩ := (mem_nextL ic).mp hk2
        have ne4 := isCh_ne m c4 r
        have ew : w ++ k :: v = (w ++ [k]) ++ v := by simp
        rw [ew]
        have e5 : ∀ body, body (E1 (iT c) (some (.str (sgn k)))) = .nx (E1 (iT out) (some (.str (sgn k)))) → forS (gN 5) body ((k :: v).map fun k => Dat.str (sgn k)) (E1 (iT c) j) = forS (gN 5) body (v.map fun k => Dat.str (sgn k)) (E1 (iT out) (some (.str (sgn k)))) := fun body e => by
          show forS (gN 5) body (Dat.str (sgn k) :: v.map fun k => Dat.str (sgn k)) _ = _
          rw [forS]
          rcases j with _ | j <;> simp [E1] at e ⊢ <;> rw [e]
        rw [e5]
        · exact ih (w ++ [k]) out _ c4 ne4
        · simp [E1, e3, in_sgn', hk2, e4]
      · refine .inl ⟨E1 (iT c) (some (.str (sgn k))), ?_, fun p r => ?_⟩
        · show forS (gN 5) _ (Dat.str (sgn k) :: v.map fun k => Dat.str (sgn k)) _ = _
          rw [forS]
          rcases j with _ | j <;> simp [E1, e3, in_sgn', hk2]
        · have ew : w ++ k :: v = (w ++ [k]) ++ v := by simp
          rw [ew] at r
          obtain ⟨q, r⟩ := rch_pre r
          exact hk2 ((mem_nextL ic).mpr ⟨q, r⟩)
  rcases key v w ch none c hne with ⟨j', e, no⟩ | ⟨c', j', e, ne, ic⟩
  · refine ⟨.non, ?_, .inl ⟨rfl, no⟩⟩
    simp [E1] at e
    simp [F_led_by, e]
  · refine ⟨iT c', ?_, .inr ⟨c', rfl, ne, ic⟩⟩
    simp [E1] at e
    simp [F_led_by, e]
theorem sp_chart_behind (v : List Nat) (hv : lows v) (hl : v.length ≤ 1000) : ∃ d, F_chart_behind C none [macI C n ss bs, .str (mk hs), .str (mk v)] = .ok (.d d) none ∧ ChA ss hs bs v d := by
  obtain ⟨out, e, c⟩ := sp_beginning C m hs
  have ne : out ≠ [] := by
    cases hb : bs with
    | nil => exact absurd hb m.b0
    | cons b l => exact isCh_ne m c (.base (p := b) (by rw [hb]; exact List.mem_cons_self))
  obtain ⟨d, e2, a⟩ := sp_led_by C m h c ne v
  exact ⟨d, by simp [F_chart_behind, sp_want_heard C m h, sp_want_word C v hv hl, e, e2], a⟩
end
end DV

set_option autoImplicit false
set_option linter.all false
set_option maxRecDepth 100000
namespace DV
open PySem L2
/-! ### spots: a place and how many letters were heard -/
abbrev Sp := Int × Nat
def nx1 (hs v : List Nat) (a : Sp) (s : Stp) : Option Sp :=
  if s.1 = a.1 then
    if quiet hs s.2.1 = true then some (s.2.2, a.2)
    else if s.2.1 = (v.drop a.2).take 1 then some (s.2.2, a.2 + 1) else none
  else none
inductive SpR (ss : List Stp) (hs : List Nat) (bs : List Int) (v : List Nat) : Sp → Prop
  | base {b : Int} : b ∈ bs → SpR ss hs bs v (b, 0)
  | step {a c : Sp} {s : Stp} : SpR ss hs bs v a → s ∈ ss → nx1 hs v a s = some c → SpR ss hs bs v c
def hear (hs z : List Nat) : List Nat := if quiet hs z = true then [] else z
theorem not_quiet {hs z : List Nat} (hz : z.length ≤ 1) (h : quiet hs z ≠ true) : ∃ k, z = [k] ∧ k ∈ hs := by
  match z, hz with
  | [], _ => exact absurd rfl h
  | [k], _ =>
    refine ⟨k, rfl, ?_⟩
    by_cases q : k ∈ hs
    · exact q
    · exact absurd (by simp [quiet, q]) h
theorem quiet_not {hs : List Nat} {k : Nat} (h : k ∈ hs) : quiet hs [k] ≠ true := by simp [quiet, h]
theorem nx1_some {hs v : List Nat} {a c : Sp} {s : Stp} (h : nx1 hs v a s = some c) (hz : s.2.1.length ≤ 1) : s.1 = a.1 ∧ s.2.2 = c.1 ∧ v.drop a.2 = hear hs s.2.1 ++ v.drop c.2 ∧ ((quiet hs s.2.1 = true ∧ c.2 = a.2) ∨ ∃ k, s.2.1 = [k] ∧ k ∈ hs ∧ c.2 = a.2 + 1 ∧ a.2 < v.length ∧ v.take c.2 = v.take a.2 ++ [k]) := by
  unfold nx1 at h
  split at h
  · rename_i h1
    split at h
    · rename_i h2
      cases h
      exact ⟨h1, rfl, by simp [hear, h2], .inl ⟨h2, rfl⟩⟩
    · rename_i h2
      split at h
      · rename_i h3
        cases h
        obtain ⟨k, e, hk⟩ := not_quiet hz h2
        have lt : a.2 < v.length := by
          apply Classical.byContradiction
          intro hc
          rw [List.drop_of_length_le (by omega), e] at h3
          cases h3
        have hd : v.drop a.2 = v[a.2] :: v.drop (a.2 + 1) := List.drop_eq_getElem_cons lt
        have ek : k = v[a.2] := by
          rw [hd, e] at h3
          exact (List.cons.inj h3).1
        refine ⟨h1, rfl, ?_, .inr ⟨k, e, hk, rfl, lt, ?_⟩⟩
        · unfold hear
          rw [if_neg h2, e, hd, ek]; rfl
        · show v.take (a.2 + 1) = _
          rw [List.take_succ_eq_append_getElem lt, ek]
      · cases h
  · cases h
section
variable {ss : List Stp} {hs : List Nat} {bs : List Int} {v : List Nat}
theorem spR_iff (hz : ∀ s ∈ ss, s.2.1.length ≤ 1) {p : Int} {k : Nat} : SpR ss hs bs v (p, k) ↔ k ≤ v.length ∧ Rch ss hs bs (v.take k) p := by
  constructor
  · have : ∀ {a : Sp}, SpR ss hs bs v a → a.2 ≤ v.length ∧ Rch ss hs bs (v.take a.2) a.1 := by
      intro a r
      induction r with
      | base hb => exact ⟨Nat.zero_le _, .base hb⟩
      | @step a c s _ hs' e ih =>
        obtain ⟨e1, e2, _, e3⟩ := nx1_some e (hz s hs')
        have hm : (a.1, s.2.1, c.1) ∈ ss := by rw [← e1, ← e2]; exact hs'
        rcases e3 with ⟨q, e3⟩ | ⟨k, e4, hk, e3, lt, e5⟩
        · rw [e3]
          exact ⟨ih.1, .sil ih.2 hm q⟩
        · rw [e5]
          rw [e4] at hm
          exact ⟨by omega, .say ih.2 hm hk⟩
    exact this
  · rintro ⟨h1, h2⟩
    have : ∀ {w : List Nat} {p : Int}, Rch ss hs bs w p → ∀ k, k ≤ v.length → w = v.take k → SpR ss hs bs v (p, k) := by
      intro w p r
      induction r with
      | base hb =>
        intro k hk e
        have : k = 0 := by
          have := congrArg List.length e
          rw [List.length_take, Nat.min_eq_left hk] at this
          simpa using this.symm
        subst this
        exact .base hb
      | @sil w p q z _ hm hq ih =>
        intro k hk e
        exact .step (ih k hk e) hm (by simp [nx1, hq])
      | @say w p q c _ hm hc ih =>
        intro k hk e
        have hl := congrArg List.length e
        rw [List.length_take, Nat.min_eq_left hk, List.length_append, List.length_singleton] at hl
        obtain ⟨j, rfl⟩ : ∃ j, k = j + 1 := ⟨w.length, hl.symm⟩
        rw [List.take_succ_eq_append_getElem (by omega)] at e
        obtain ⟨e1, e2⟩ := List.append_inj' e rfl
        refine .step (ih j (by omega) e1) hm ?_
        have hd : v.drop j = v[j] :: v.drop (j + 1) := List.drop_eq_getElem_cons (by omega)
        have e3 : c = v[j] := by simpa using e2
        unfold nx1
        rw [if_pos rfl, if_neg (quiet_not hc), if_pos]
        show [c] = (v.drop j).take 1
        rw [hd, e3]; rfl
    exact this h2 k h1 rfl
/-- a way from a place on -/
def Pth (ss : List Stp) (hs : List Nat) : Int → List Stp → List Nat → Int → Prop
  | p, [], w, q => w = [] ∧ p = q
  | p, s :: sts, w, q => s.1 = p ∧ s ∈ ss ∧ ∃ u, w = hear hs s.2.1 ++ u ∧ Pth ss hs s.2.2 sts u q
theorem pth_nx {a c : Sp} {s : Stp} (h : nx1 hs v a s = some c) (hm : s ∈ ss) (hz : s.2.1.length ≤ 1) {sts : List Stp} {r : Int} (p : Pth ss hs c.1 sts (v.drop c.2) r) : Pth ss hs a.1 (s :: sts) (v.drop a.2) r := by
  obtain ⟨e1, e2, e3, _⟩ := nx1_some h hz
  exact ⟨e1, hm, _, e3, by rw [e2]; exact p⟩
/-! ### the parents -/
abbrev PEn := Sp × Option (Sp × Stp)
def putP (a : Sp) (L : List PEn) (x : Stp × Sp) : List PEn := if x.2 ∈ L.map (·.1) then L else L ++ [(x.2, some (a, x.1))]
theorem putP_fold (a : Sp) : ∀ (cs : List (Stp × Sp)) (L : List PEn), (L.map (·.1)).Nodup → ∃ new : List PEn, cs.foldl (putP a) L = L ++ new ∧ ((L ++ new).map (·.1)).Nodup ∧ (∀ e ∈ new, ∃ x ∈ cs, e = (x.2, some (a, x.1))) ∧ ∀ x ∈ cs, x.2 ∈ (L ++ new).map (·.1)
  | [], L, nd => ⟨[], by simp, by simpa using nd, (fun _ h => nomatch h), (fun _ h => nomatch h)⟩
  | x :: cs, L, nd => by
    by_cases hc : x.2 ∈ L.map (·.1)
    · have e0 : putP a L x = L := by unfold putP; rw [if_pos hc]
      obtain ⟨new, e, h1, h2, h3⟩ := putP_fold a cs L nd
      refine ⟨new, by rw [List.foldl_cons, e0, e], h1, fun e' he => ?_, fun y hy => ?_⟩
      · obtain ⟨y, hy, z⟩ := h2 e' he
        exact ⟨y, List.mem_cons_of_mem _ hy, z⟩
      · rcases List.mem_cons.mp hy with rfl | hy
        · rw [List.map_append]; exact List.mem_append_left _ hc
        · exact h3 y hy
    · have e0 : putP a L x = L ++ [(x.2, some (a, x.1))] := by unfold putP; rw [if_neg hc]
      have nd2 : ((L ++ [((x.2, some (a, x.1)) : PEn)]).map (·.1)).Nodup := by
        rw [List.map_append]
        exact List.nodup_append.mpr ⟨nd, by simp, fun p hp q hq e => by
          simp only [List.map_cons, List.map_nil, List.mem_singleton] at hq
          subst hq e
          exact hc hp⟩
      obtain ⟨new, e, h1, h2, h3⟩ := putP_fold a cs _ nd2
      refine ⟨(x.2, some (a, x.1)) :: new, by rw [List.foldl_cons, e0, e]; simp, by simpa using h1, fun e' he => ?_, fun y hy => ?_⟩
      · rcases List.mem_cons.mp he with rfl | he
        · exact ⟨x, List.mem_cons_self, rfl⟩
        · obtain ⟨y, hy, z⟩ := h2 e' he
          exact ⟨y, List.mem_cons_of_mem _ hy, z⟩
      · rcases List.mem_cons.mp hy with rfl | hy
        · simp
        · have := h3 y hy
          simpa using this
def nexts (ss : List Stp) (hs v : List Nat) (a : Sp) : List (Stp × Sp) := ss.filterMap fun s => (nx1 hs v a s).map fun c => (s, c)
theorem mem_nexts {a : Sp} {s : Stp} {c : Sp} : (s, c) ∈ nexts ss hs v a ↔ s ∈ ss ∧ nx1 hs v a s = some c := by
  unfold nexts
  rw [List.mem_filterMap]
  constructor
  · rintro ⟨s', h1, h2⟩
    cases e : nx1 hs v a s' with
    | none => rw [e] at h2; cases h2
    | some c' => rw [e] at h2; cases h2; exact ⟨h1, e⟩
  · rintro ⟨h1, h2⟩
    exact ⟨s, h1, by rw [h2]; rfl⟩
structure SpI (n : Int) (ss : List Stp) (hs : List Nat) (bs : List Int) (v : List Nat) (L : List PEn) (i : Nat) : Prop where
  nd : (L.map (·.1)).Nodup
  base : ∀ b ∈ bs, (b, 0) ∈ L.map (·.1)
  rng : ∀ e ∈ L, (0 ≤ e.1.1 ∧ e.1.1 < n) ∧ e.1.2 ≤ v.length
  par : ∀ (j : Nat) (e : PEn), L[j]? = some e → (e.2 = none ∧ e.1.1 ∈ bs ∧ e.1.2 = 0) ∨ ∃ a s, e.2 = some (a, s) ∧ s ∈ ss ∧ nx1 hs v a s = some e.1 ∧ ∃ (j' : Nat) (e' : PEn), j' < j ∧ L[j']? = some e' ∧ e'.1 = a
  done : ∀ (j : Nat) (e : PEn), j < i → L[j]? = some e → ∀ s ∈ ss, ∀ c, nx1 hs v e.1 s = some c → c ∈ L.map (·.1)
  le : i ≤ L.length
theorem nodup_lenG {κ : Type} [DecidableEq κ] {l m : List κ} (h : l.Nodup) (s : ∀ x ∈ l, x ∈ m) : l.length ≤ m.length := by
  induction l generalizing m with
  | nil => simp
  | cons a l ih =>
    obtain ⟨n1, n2⟩ := List.nodup_cons.mp h
    have := ih (m := m.erase a) n2 fun x hx => (List.mem_erase_of_ne (fun e => n1 (by rw [← e]; exact hx))).mpr (s x (List.mem_cons_of_mem _ hx))
    have ha := s a List.mem_cons_self
    rw [List.length_erase_of_mem ha] at this
    have : 0 < m.length := List.length_pos_of_mem ha
    simp only [List.length_cons]
    omega
def allSp (n : Int) (m : Nat) : List Sp := (rngI n).flatMap fun p => (List.range m).map fun k => (p, k)
theorem len_allSp (n : Int) (m : Nat) : (allSp n m).length = n.toNat * m := by
  unfold allSp
  rw [List.length_flatMap]
  have : ((rngI n).map fun p => ((List.range m).map fun k => (p, k)).length) = (rngI n).map fun _ => m := by
    apply List.map_congr_left
    intro p _
    simp
  rw [this, List.map_const', List.sum_replicate_nat, len_rngI]
theorem mem_allSp {n : Int} {m : Nat} {a : Sp} (h : (0 ≤ a.1 ∧ a.1 < n) ∧ a.2 < m) : a ∈ allSp n m :=
  List.mem_flatMap.mpr ⟨a.1, mem_rngI.mpr h.1, List.mem_map.mpr ⟨a.2, List.mem_range.mpr h.2, rfl⟩⟩
theorem SpI.len {n : Int} {L : List PEn} {i : Nat} (p : SpI n ss hs bs v L i) (hn : n ≤ 8) : L.length ≤ 8 * (v.length + 1) := by
  have := nodup_lenG p.nd (m := allSp n (v.length + 1)) fun x hx => by
    obtain ⟨e, he, rfl⟩ := List.mem_map.mp hx
    have := p.rng e he
    exact mem_allSp ⟨this.1, by omega⟩
  rw [len_allSp, List.length_map] at this
  have h2 : n.toNat * (v.length + 1) ≤ 8 * (v.length + 1) := Nat.mul_le_mul_right _ (by omega)
  omega
theorem SpI.turn {n : Int} {L : List PEn} {i : Nat} (p : SpI n ss hs bs v L i) (hst : ∀ s ∈ ss, StOk n s) {e0 : PEn} (h0 : L[i]? = some e0) : ∃ new, (nexts ss hs v e0.1).foldl (putP e0.1) L = L ++ new ∧ SpI n ss hs bs v (L ++ new) (i + 1) := by
  obtain ⟨new, e, h1, h2, h3⟩ := putP_fold e0.1 (nexts ss hs v e0.1) L p.nd
  have hi : i < L.length := (List.getElem?_eq_some_iff.mp h0).1
  have old : ∀ {j : Nat} {e : PEn}, L[j]? = some e → (L ++ new)[j]? = some e := fun {j e} h => by
    rw [List.getElem?_append_left (List.getElem?_eq_some_iff.mp h).1]; exact h
  refine ⟨new, e, h1, fun b hb => ?_, fun e' he => ?_, fun j e' he => ?_, fun j e' hj he s hs' c hc => ?_, ?_⟩
  · rw [List.map_append]; exact List.mem_append_left _ (p.base b hb)
  · rcases List.mem_append.mp he with he | he
    · exact p.rng e' he
    · obtain ⟨⟨s, c⟩, hx, rfl⟩ := h2 e' he
      obtain ⟨hs', hc⟩ := mem_nexts.mp hx
      obtain ⟨e1, e2, _, e3⟩ := nx1_some hc (hst s hs').z.2
      have r0 := p.rng e0 (List.mem_of_getElem? h0)
      refine ⟨?_, ?_⟩
      · show 0 ≤ c.1 ∧ c.1 < n
        rw [← e2]; exact (hst s hs').b
      · show c.2 ≤ _
        rcases e3 with ⟨_, e3⟩ | ⟨k, _, _, e3, lt, _⟩ <;> omega
  · by_cases hj : j < L.length
    · rw [List.getElem?_append_left hj] at he
      rcases p.par j e' he with q | ⟨a, s, q1, q2, q3, j', e2, q4, q5, q6⟩
      · exact .inl q
      · exact .inr ⟨a, s, q1, q2, q3, j', e2, q4, old q5, q6⟩
    · rw [List.getElem?_append_right (by omega)] at he
      obtain ⟨⟨s, c⟩, hx, rfl⟩ := h2 e' (List.mem_of_getElem? he)
      obtain ⟨hs', hc⟩ := mem_nexts.mp hx
      exact .inr ⟨e0.1, s, rfl, hs', hc, i, e0, by omega, old h0, rfl⟩
  · by_cases hi2 : j < i
    · have hL : j < L.length := by have := p.le; omega
      rw [List.getElem?_append_left hL] at he
      rw [List.map_append]
      exact List.mem_append_left _ (p.done j e' hi2 he s hs' c hc)
    · have : j = i := by omega
      subst this
      rw [List.getElem?_append_left hi, h0] at he
      cases he
      exact h3 (s, c) (mem_nexts.mpr ⟨hs', hc⟩)
  · rw [List.length_append]; omega
theorem SpI.all {n : Int} {L : List PEn} (p : SpI n ss hs bs v L L.length) {a : Sp} : a ∈ L.map (·.1) ↔ SpR ss hs bs v a := by
  constructor
  · have : ∀ (j : Nat) (e : PEn), L[j]? = some e → SpR ss hs bs v e.1 := by
      intro j
      induction j using Nat.strongRecOn with
      | _ j ih =>
        intro e he
        rcases p.par j e he with ⟨_, q1, q2⟩ | ⟨a, s, _, q2, q3, j', e', q4, q5, q6⟩
        · have : e.1 = (e.1.1, 0) := by rw [← q2]
          rw [this]; exact .base q1
        · have := ih j' q4 e' q5
          rw [q6] at this
          exact .step this q2 q3
    intro h
    obtain ⟨e, he, rfl⟩ := List.mem_map.mp h
    obtain ⟨j, hj⟩ := List.mem_iff_getElem?.mp he
    exact this j e hj
  · intro r
    induction r with
    | base hb => exact p.base _ hb
    | @step a c s _ hs' hc ih =>
      obtain ⟨e, he, rfl⟩ := List.mem_map.mp ih
      obtain ⟨j, hj⟩ := List.mem_iff_getElem?.mp he
      exact p.done j e (List.getElem?_eq_some_iff.mp hj).1 hj s hs' c hc
end
end DV

set_option autoImplicit false
set_option linter.all false
set_option maxRecDepth 100000
namespace DV
open PySem L2
theorem forS_exR {α τ J : Type} {eg : EvG} {body : EvS} {P : List α → τ → Prop} (E : τ → J → Env) (g : τ → α → τ) (enc : α → Dat) : ∀ (as : List α), (∀ t j a as', P (a :: as') t → ∃ s1 j', eg (enc a) (E t j) = .ok () s1 ∧ (body s1 = .nx (E (g t a) j') ∨ body s1 = .ct (E (g t a) j')) ∧ P as' (g t a)) →
    ∀ t j, P as t → ∃ j', forS eg body (as.map enc) (E t j) = .nx (E (as.foldl g t) j') ∧ P [] (as.foldl g t)
  | [], h, t, j, p => ⟨j, rfl, p⟩
  | a :: as, h, t, j, p => by
    obtain ⟨s1, j1, e1, e2, p1⟩ := h t j a as p
    obtain ⟨j2, e3, p2⟩ := forS_exR E g enc as h (g t a) j1 p1
    refine ⟨j2, ?_, p2⟩
    show forS eg body (enc a :: as.map enc) (E t j) = _
    unfold forS
    rcases e2 with e2 | e2 <;> simp only [e1, e2, Out.bind_ok, List.foldl_cons, SR.of] <;> exact e3
theorem cutk (v : List Nat) (k : Nat) : cutS (mk v) (some (k : Int)) (some ((k : Int) + 1)) = mk ((v.drop k).take 1) := by
  unfold cutS
  rw [show ((k : Int) + 1) = ((k + 1 : Nat) : Int) by omega, HT.sIx_nat, HT.sIx_nat, len_mk]
  congr 2
  show (v.toArray.toList.drop (min k v.length)).take _ = _
  simp only [List.toList_toArray]
  by_cases q : k < v.length
  · rw [Nat.min_eq_left (by omega), Nat.min_eq_left (by omega), show k + 1 - k = 1 by omega]
  · rw [Nat.min_eq_right (by omega), Nat.min_eq_right (by omega), List.drop_of_length_le (Nat.le_refl _), List.drop_of_length_le (by omega)]
    simp
def spD (a : Sp) : Dat := .tup [.int a.1, .int a.2]
def nsD (x : Stp × Sp) : Dat := .tup [stpD x.1, spD x.2]
section
variable (C : CA) {n : Int} {ss : List Stp} {bs : List Int} {hs : List Nat} (m : MOk n ss bs)
include m
theorem sp_next_spots (v : List Nat) (hv : v.length ≤ 1000) (a : Sp) : F_next_spots C none [macI C n ss bs, .str (mk hs), .str (mk v), spD a] = .ok (.d (.lst ((nexts ss hs v a).map nsD))) none := by
  obtain ⟨p, k⟩ := a
  have sv : v.length ≤ sizeLine := Nat.le_trans hv (by decide)
  have sv2 : (mk v).length ≤ sizeLine := by rw [len_mk]; exact sv
  let E1 : List (Stp × Sp) → Option Dat → Env := fun t j => [some (.d (macI C n ss bs)), some (.d (.str (mk hs))), some (.d (.str (mk v))), some (.d (spD (p, k))), some (.d (.int p)), some (.d (.int k)), some (.c false (.lst (t.map nsD))), j.map Ow.d]
  obtain ⟨j', e, _⟩ := forS_exR (α := Stp) (τ := List (Stp × Sp)) (J := Option Dat) (eg := gN 7) (body := sIf (eAnd (eTs (eOp aEq (eOp aIx (eVar 7) (eC (.int 0))) (eVar 4))) (eOr (eTs (eOp aEq (eOp aIx (eVar 7) (eC (.int 1))) (eC (.str (mk []))))) (eTs (eOp aNotIn (eOp aIx (eVar 7) (eC (.int 1))) (eVar 1)))))
      (sDrop (eApp 6 (eTup (eCons (eVar 7) (eCons (eTup (eCons (eOp aIx (eVar 7) (eC (.int 2))) (eCons (eVar 5) eNil))) eNil)))))
      (sIf (eAnd (eTs (eOp aEq (eOp aIx (eVar 7) (eC (.int 0))) (eVar 4))) (eTs (eOp aEq (eOp aIx (eVar 7) (eC (.int 1))) (eSl (eVar 2) (eOi (some (eVar 5))) (eOi (some (eOp aAdd (eVar 5) (eC (.int 1)))))))))
      (sDrop (eApp 6 (eTup (eCons (eVar 7) (eCons (eTup (eCons (eOp aIx (eVar 7) (eC (.int 2))) (eCons (eOp aAdd (eVar 5) (eC (.int 1))) eNil))) eNil)))))
      sNext)) (P := fun as t => t.length + as.length ≤ 100 ∧ ∀ s ∈ as, s.2.1.length ≤ 1)
    E1 (fun t s => t ++ ((nx1 hs v (p, k) s).map fun c => (s, c)).toList) stpD ss (fun t j s as' pt => by
      have tl : t.length < 100000 := by have := pt.1; simp only [List.length_cons] at this; omega
      refine ⟨E1 t (some (stpD s)), some (stpD s), by rcases j with _ | j <;> simp [E1], .inl ?_, ?_⟩
      · obtain ⟨a, z, b⟩ := s
        have hz := pt.2 (a, z, b) List.mem_cons_self
        have ce := cutk v k
        simp only at hz
        match z, hz with
        | [], _ =>
          by_cases h1 : a = p <;> simp [E1, nx1, h1, quiet, tl, spD, nsD, stpD]
        | [c], _ =>
          obtain ⟨w, hw⟩ : ∃ w, w = (v.drop k).take 1 := ⟨_, rfl⟩
          rw [← hw] at ce
          have e8 : nx1 hs v (p, k) (a, [c], b) = if a = p then if quiet hs [c] = true then some (b, k) else if [c] = w then some (b, k + 1) else none else none := by unfold nx1; rw [hw]
          rw [e8]
          by_cases h4 : w = [c]
          · subst h4
            by_cases h1 : a = p <;> by_cases h3 : c ∈ hs <;> simp [E1, h1, h3, quiet, tl, spD, nsD, stpD, mk_inj, in_sgn, sv, sv2, ce]
          · have h5 : ¬ [c] = w := fun e => h4 e.symm
            by_cases h1 : a = p <;> by_cases h3 : c ∈ hs <;> simp [E1, h1, h3, h5, quiet, tl, spD, nsD, stpD, mk_inj, in_sgn, sv, sv2, ce]
      · refine ⟨?_, fun s' hs' => pt.2 s' (List.mem_cons_of_mem _ hs')⟩
        have := pt.1
        have l2 : ((nx1 hs v (p, k) s).map fun c => (s, c)).toList.length ≤ 1 := by
          cases (nx1 hs v (p, k) s) <;> simp
        simp only [List.length_cons, List.length_append] at this ⊢
        omega) [] none ⟨by have := m.few; simp; omega, m.z1⟩
  have ef : ∀ (ss : List Stp) (t : List (Stp × Sp)), ss.foldl (fun t s => t ++ ((nx1 hs v (p, k) s).map fun c => (s, c)).toList) t = t ++ nexts ss hs v (p, k) := by
    intro ss
    induction ss with
    | nil => intro t; simp [nexts]
    | cons s ss ih =>
      intro t
      rw [List.foldl_cons, ih]
      unfold nexts
      rw [List.filterMap_cons]
      cases (nx1 hs v (p, k) s) <;> simp
  rw [ef] at e
  simp [E1, spD] at e
  simp [F_next_spots, e, spD]
end
end DV

set_option autoImplicit false
set_option linter.all false
set_option maxRecDepth 100000
namespace DV
open PySem L2
/-! ### the dict of parents -/
def kkS (c : Sp) : List Key := [.inl c.1, .inl (c.2 : Int)]
theorem kkS_inj {a b : Sp} : kkS a = kkS b ↔ a = b := by
  obtain ⟨p, k⟩ := a
  obtain ⟨q, l⟩ := b
  simp [kkS]
  intro _
  omega
def vvE (e : PEn) : Dat := match e.2 with
  | none => .non
  | some (a, s) => .tup [spD a, stpD s]
def parC (L : List PEn) : Cel := .dcT (L.map fun e => kkS e.1) (L.map vvE)
def lk (L : List PEn) (c : Sp) : Option Dat := look (L.map fun e => kkS e.1) (L.map vvE) (kkS c)
theorem dlook_par (L : List PEn) (c : Sp) : dlook (parC L).dat (spD c) = some (lk L c) := rfl
theorem lk_some (L : List PEn) (c : Sp) : (lk L c).isSome = decide (c ∈ L.map (·.1)) := by
  induction L with
  | nil => rfl
  | cons e L ih =>
    show (if kkS e.1 = kkS c then some (vvE e) else lk L c).isSome = _
    by_cases h : e.1 = c
    · rw [if_pos (kkS_inj.mpr h)]
      simp [h]
    · rw [if_neg (fun z => h (kkS_inj.mp z)), ih]
      have : c ≠ e.1 := fun z => h z.symm
      simp [this]
theorem lk_at {L : List PEn} (nd : (L.map (·.1)).Nodup) {j : Nat} {e : PEn} (h : L[j]? = some e) : lk L e.1 = some (vvE e) := by
  induction L generalizing j with
  | nil => simp at h
  | cons e0 L ih =>
    rw [List.map_cons, List.nodup_cons] at nd
    show (if kkS e0.1 = kkS e.1 then some (vvE e0) else lk L e.1) = _
    cases j with
    | zero =>
      simp at h
      subst h
      rw [if_pos rfl]
    | succ j =>
      simp at h
      rw [if_neg, ih nd.2 h]
      intro z
      refine nd.1 ?_
      rw [kkS_inj.mp z]
      exact List.mem_map.mpr ⟨e, List.mem_of_getElem? h, rfl⟩
theorem hasK_par (L : List PEn) (c : Sp) : hasK (L.map fun e => kkS e.1) (kkS c) = decide (c ∈ L.map (·.1)) := by
  rw [Bool.eq_iff_iff, hasK_iff, decide_eq_true_eq, List.mem_map, List.mem_map]
  constructor
  · rintro ⟨e, he, z⟩; exact ⟨e, he, kkS_inj.mp z⟩
  · rintro ⟨e, he, z⟩; exact ⟨e, he, by rw [z]⟩
theorem dput_par {L : List PEn} {c : Sp} {o : Option (Sp × Stp)} (h : c ∉ L.map (·.1)) (hl : L.length < 100000) : dput (parC L) (spD c) (vvE (c, o)) = some (parC (L ++ [(c, o)])) := by
  show (if (L.map fun e => kkS e.1).length < 100000 then some (Cel.dcT (putD (L.map fun e => kkS e.1) (L.map vvE) (kkS c) (vvE (c, o))).1 (putD (L.map fun e => kkS e.1) (L.map vvE) (kkS c) (vvE (c, o))).2) else none) = _
  rw [List.length_map, if_pos hl]
  unfold putD
  rw [hasK_par, decide_eq_false h, if_neg (by decide)]
  unfold parC
  simp
theorem dat_lst (ds : List Dat) : (Cel.lst ds).dat = .lst ds := rfl
theorem shp_sps (l : List Sp) : shp (.lst (l.map spD)) = true := by
  have p : plains (l.map spD) = true := by
    induction l with
    | nil => rfl
    | cons s l ih => exact Bool.and_eq_true_iff.mpr ⟨rfl, ih⟩
  have q : PyData.canLayAll0 (toPs (l.map spD)) = true := by
    clear p
    induction l with
    | nil => rfl
    | cons s l ih => exact Bool.and_eq_true_iff.mpr ⟨rfl, ih⟩
  have d : PyData.depthAll (toPs (l.map spD)) ≤ 1 := by
    clear p q
    induction l with
    | nil => exact Nat.zero_le _
    | cons s l ih => exact Nat.max_le.mpr ⟨Nat.le_refl 1, ih⟩
  refine Bool.and_eq_true_iff.mpr ⟨p, Bool.and_eq_true_iff.mpr ⟨q, decide_eq_true ?_⟩⟩
  show PyData.depthAll (toPs (l.map spD)) + 1 ≤ 64
  omega
theorem ne_sps (l : List Sp) : aNe (.lst (l.map spD)) (.lst []) = some (.bl (!decide (l = []))) := by
  have e : aNe (.lst (l.map spD)) (.lst []) = if shp (.lst (l.map spD)) = true ∧ shp (.lst []) = true then some (.bl (!PyData.eqv (toP (.lst (l.map spD))) (toP (.lst [])))) else none := rfl
  rw [e, if_pos ⟨shp_sps l, rfl⟩]
  cases l with
  | nil => rfl
  | cons a l => rfl
theorem erase0 (d : Dat) (ds : List Dat) : eraseD (d :: ds) 0 = some (d, ds) := by
  have : seqIndex? 0 (d :: ds).length = some 0 := by
    unfold seqIndex?
    simp
  unfold eraseD
  rw [if_pos (by decide), this]
  rfl
section
variable (C : CA) {n : Int} {ss : List Stp} {bs : List Int} {hs : List Nat} (m : MOk n ss bs)
abbrev J4 := Option Dat × Option Dat × Option Dat × Option Dat
def EP (M : Dat) (hs v : List Nat) (o4 : Option Ow) (o6 : Option Ow) (i : Nat) (L : List PEn) (j : Option Dat × Option Dat) : Env :=
  [some (.d M), some (.d (.str (mk hs))), some (.d (.str (mk v))), some (.c false (parC L)), o4, some (.c false (.lst ((L.drop i).map fun e => spD e.1))), o6, j.1.map Ow.d, j.2.map Ow.d]
abbrev bP : EvS := sIf (eLoT (eTs (eDIn true (eVar 8) (eVar 3))))
      (sSeq (sAsg (eTup (eCons (eVar 6) (eCons (eVar 7) eNil))) (gSubD 3 (eVar 8)))
      (sDrop (eApp 5 (eVar 8))))
      sNext
theorem turnP (M : Dat) (hs v : List Nat) (o4 : Option Dat) (a : Sp) (i : Nat) (x : Stp × Sp) (L : List PEn) (j : Option Dat × Option Dat) (hi : i ≤ L.length) (hl : L.length < 90000) :
    ∃ s1 j', (gTu 2 (gConss (gN 7) (gConss (gN 8) gNils))) (nsD x) (EP M hs v (o4.map Ow.d) (some (.d (spD a))) i L j) = .ok () s1 ∧ bP s1 = .nx (EP M hs v (o4.map Ow.d) (some (.d (spD a))) i (putP a L x) j') := by
  obtain ⟨s, c⟩ := x
  refine ⟨EP M hs v (o4.map Ow.d) (some (.d (spD a))) i L (some (stpD s), some (spD c)), (some (stpD s), some (spD c)), ?_, ?_⟩
  · obtain ⟨j1, j2⟩ := j
    rcases j1 with _ | j1 <;> rcases j2 with _ | j2 <;> simp [EP, nsD]
  · have e1 := dlook_par L c
    have e2 := lk_some L c
    by_cases hc : c ∈ L.map (·.1)
    · rw [decide_eq_true hc] at e2
      obtain ⟨y, e2⟩ := Option.isSome_iff_exists.mp e2
      have e3 : putP a L (s, c) = L := by unfold putP; rw [if_pos hc]
      rw [e3]
      rcases o4 with _ | o4 <;> simp [EP, -dlook, -Cel.dat, e1, e2, dat_lst]
    · rw [decide_eq_false hc] at e2
      replace e2 : lk L c = none := by cases q : lk L c with
        | none => rfl
        | some y => rw [q] at e2; cases e2
      have e3 : putP a L (s, c) = L ++ [(c, some (a, s))] := by unfold putP; rw [if_neg hc]
      have e4 := dput_par (o := some (a, s)) hc (by omega)
      have e5 : vvE (c, some (a, s)) = .tup [spD a, stpD s] := rfl
      rw [e5] at e4
      have e6 : (L ++ [((c, some (a, s)) : PEn)]).drop i = L.drop i ++ [(c, some (a, s))] := List.drop_append_of_le_length hi
      have e7 : L.length - i < 100000 := by omega
      rw [e3]
      rcases o4 with _ | o4 <;> simp [EP, -dlook, -dput, -Cel.dat, e1, e2, dat_lst, e4, e6, e7]
include m
/-- spots_from -/
theorem sp_spots_from (v : List Nat) (hv : v.length ≤ 1000) : ∃ L, F_spots_from C none [macI C n ss bs, .str (mk hs), .str (mk v)] = .ok (.d (parC L).dat) none ∧ SpI n ss hs bs v L L.length := by
  have lb := len_of m m.bn m.br
  -- the begins
  let E0 : List PEn → Option Dat → Env := fun L j => [some (.d (macI C n ss bs)), some (.d (.str (mk hs))), some (.d (.str (mk v))), some (.c false (parC L)), j.map Ow.d, none, none, none, none]
  obtain ⟨j0, e0, _⟩ := forS_exR (α := Int) (τ := List PEn) (J := Option Dat) (eg := gN 4) (body := sAsg (eC .non) (gSubD 3 (eTup (eCons (eVar 4) (eCons (eC (.int 0)) eNil))))) (P := fun as L => ((L.map fun e : PEn => e.1) ++ as.map fun b => ((b, 0) : Sp)).Nodup ∧ L.length + as.length ≤ 8)
    E0 (fun L b => L ++ [((b, 0), none)]) Dat.int bs (fun L j b as' pt => by
      obtain ⟨p1, p2⟩ := pt
      simp only [List.length_cons] at p2
      have hc : (b, 0) ∉ L.map (·.1) := fun z => (List.nodup_append.mp p1).2.2 _ z _ (by simp) rfl
      have e4 := dput_par (o := none) hc (by omega)
      have e5 : vvE ((b, 0), none) = .non := rfl
      have e6 : spD (b, 0) = .tup [.int b, .int 0] := rfl
      rw [e5, e6] at e4
      refine ⟨E0 L (some (.int b)), some (.int b), by rcases j with _ | j <;> simp [E0], .inl (by simp [E0, -dput, e4]), by simpa using p1, by simp only [List.length_append, List.length_singleton]; omega⟩) [] none ⟨by
        show (bs.map fun b => ((b, 0) : Sp)).Nodup
        exact m.bn.map (fun b => ((b, 0) : Sp)) (fun a b h z => h (by cases z; rfl)), by simpa using lb⟩
  have ef : ∀ (bs : List Int) (L : List PEn), bs.foldl (fun L b => L ++ [((b, 0), none)]) L = L ++ bs.map fun b => ((b, 0), none) := by
    intro bs
    induction bs with
    | nil => intro L; simp
    | cons b bs ih => intro L; rw [List.foldl_cons, ih]; simp
  rw [ef] at e0
  let L0 : List PEn := bs.map fun b => ((b, 0), none)
  have k0 : L0.map (·.1) = bs.map fun b => ((b, 0) : Sp) := by simp [L0]
  have p0 : SpI n ss hs bs v L0 0 := by
    refine ⟨by rw [k0]; exact m.bn.map (fun b => ((b, 0) : Sp)) (fun a b h z => h (by cases z; rfl)), fun b hb => ?_, fun e he => ?_, fun j e he => ?_, fun j e hj => absurd hj (Nat.not_lt_zero _), Nat.zero_le _⟩
    · rw [k0]; exact List.mem_map.mpr ⟨b, hb, rfl⟩
    · obtain ⟨b, hb, rfl⟩ := List.mem_map.mp he
      exact ⟨m.br b hb, Nat.zero_le _⟩
    · obtain ⟨b, hb, rfl⟩ := List.mem_map.mp (List.mem_of_getElem? he)
      exact .inl ⟨rfl, hb, rfl⟩
  have key := whileS_ex (τ := List PEn × Nat) (J := J4) (et := eLoT (eTs (eOp aNe (eVar 5) (eFz (eLst eNil))))) (body := sSeq (sAsg (ePopAt 5 (eC (.int 0))) (gN 6))
      (sFor (eWalk (eVD (eCall 4 0 (F_next_spots C) (fun es _ => es) (eCons (eVar 0) (eCons (eVar 1) (eCons (eVar 2) (eCons (eVar 6) eNil)))) eNil))) (gTu 2 (gConss (gN 7) (gConss (gN 8) gNils))) bP))
    (P := fun t => SpI n ss hs bs v t.1 t.2) (Done := fun t => t.2 = t.1.length)
    (fun t j => EP (macI C n ss bs) hs v (j.1.map Ow.d) (j.2.1.map Ow.d) t.2 t.1 j.2.2) (fun t => 8 * (v.length + 1) - t.2) (fun t j pt => by
      obtain ⟨L, i⟩ := t
      simp only at pt
      have ll := pt.len m.n8
      by_cases hw : i = L.length
      · refine .inr ⟨?_, hw⟩
        have s0 : shp (.lst []) = true := rfl
        have s1 : (toP (.lst [])).eqv (toP (.lst [])) = true := rfl
        have e2 : L.drop i = [] := List.drop_of_length_le (by omega)
        simp only [EP, e2, List.map_nil]
        simp [-Cel.dat, dat_lst, s0, s1]
      · have hi : i < L.length := by have := pt.le; omega
        obtain ⟨e0, he0⟩ : ∃ e0, L[i]? = some e0 := ⟨L[i], List.getElem?_eq_getElem hi⟩
        obtain ⟨new, f1, p2⟩ := pt.turn m.st he0
        have hd : L.drop i = e0 :: L.drop (i + 1) := by
          rw [List.drop_eq_getElem_cons hi]
          rw [List.getElem?_eq_getElem hi] at he0
          cases he0
          rfl
        have en := sp_next_spots C (hs := hs) m v hv e0.1
        obtain ⟨j', e3, _⟩ := forS_exR (α := Stp × Sp) (τ := List PEn) (J := Option Dat × Option Dat) (eg := gTu 2 (gConss (gN 7) (gConss (gN 8) gNils))) (body := bP) (P := fun as L' => i + 1 ≤ L'.length ∧ L'.length + as.length ≤ 20000) (EP (macI C n ss bs) hs v (j.1.map Ow.d) (some (.d (spD e0.1))) (i + 1)) (putP e0.1) nsD (nexts ss hs v e0.1) (fun L' j' x as' p => by
          obtain ⟨q1, q2⟩ := p
          simp only [List.length_cons] at q2
          obtain ⟨s1, j1, e1, e2⟩ := turnP (macI C n ss bs) hs v j.1 e0.1 (i + 1) x L' j' q1 (by omega)
          refine ⟨s1, j1, e1, .inl e2, ?_⟩
          have : (putP e0.1 L' x).length ≤ L'.length + 1 ∧ L'.length ≤ (putP e0.1 L' x).length := by
            unfold putP
            split
            · omega
            · simp
          omega) L j.2.2 ⟨hi, by
            have : (nexts ss hs v e0.1).length ≤ ss.length := List.length_filterMap_le _ _
            have := m.few
            omega⟩
        rw [f1] at e3
        refine .inl ⟨EP (macI C n ss bs) hs v (j.1.map Ow.d) (j.2.1.map Ow.d) i L j.2.2, (L ++ new, i + 1), (j.1, some (spD e0.1), j'), ?_, ?_, p2, ?_⟩
        · have e := ne_sps (e0.1 :: (L.drop (i + 1)).map (·.1))
          obtain ⟨W, hW⟩ : ∃ W, W = (e0.1 :: (L.drop (i + 1)).map (·.1)).map spD := ⟨_, rfl⟩
          have e2 : (L.drop i).map (fun e => spD e.1) = W := by rw [hd, hW, List.map_cons, List.map_cons, List.map_map]; rfl
          rw [← hW] at e
          simp only [EP, e2]
          simp [-Cel.dat, dat_lst]
          simp at e
          simp [e]
        · obtain ⟨W, hW⟩ : ∃ W, W = (L.drop (i + 1)).map (fun e => spD e.1) := ⟨_, rfl⟩
          obtain ⟨W2, hW2⟩ : ∃ W, W = ((L ++ new).drop (i + 1)).map (fun e => spD e.1) := ⟨_, rfl⟩
          have e2 : (L.drop i).map (fun e => spD e.1) = spD e0.1 :: W := by rw [hd, hW]; rfl
          have e4 := erase0 (spD e0.1) W
          simp only [EP] at e3 ⊢
          rw [← hW, ← hW2] at e3
          rw [e2, ← hW2]
          obtain ⟨j0, j1, j2⟩ := j
          simp only at e3 ⊢
          rcases j1 with _ | j1 <;> simp [-Cel.dat, -eraseD, e4, en] <;> exact e3
        · show 8 * (v.length + 1) - (i + 1) < 8 * (v.length + 1) - i
          omega) wFuel (L0, 0) (j0, none, none, none) p0 (by unfold wFuel; simp only; omega)
  obtain ⟨⟨L, i⟩, j', e, pt, dn⟩ := key
  simp only at dn pt
  subst dn
  refine ⟨L, ?_, pt⟩
  have eb : ((parC L0).dat) = .dcT (L0.map fun e => kkS e.1) (L0.map vvE) := rfl
  have el : (L0.map fun e => kkS e.1).map keyT = L0.map fun e => spD e.1 := by rw [List.map_map]; rfl
  simp only [List.nil_append] at e0
  have e0' : forS (gN 4) (sAsg (eC .non) (gSubD 3 (eTup (eCons (eVar 4) (eCons (eC (.int 0)) eNil))))) (bs.map Dat.int) (E0 [] none) = .nx (E0 L0 j0) := e0
  have ep : (Cel.dcT [] []) = parC [] := rfl
  have el3 : eListT 3 (E0 L0 j0) = .ok (.lst (L0.map fun e => spD e.1)) (E0 L0 j0) := by
    show Out.ok (Cel.lst ((L0.map fun e => kkS e.1).map keyT)) (E0 L0 j0) = _
    rw [el]
  have d0 : L0.drop 0 = L0 := rfl
  simp [E0, -eListT] at el3
  simp [E0, -gSubD] at e0'
  simp only [EP, d0] at e
  simp [-Cel.dat] at e
  simp [F_spots_from, -gSubD, -eListT, -Cel.dat, ep, e0', el3, e]
end
end DV

set_option autoImplicit false
set_option linter.all false
set_option maxRecDepth 100000
namespace DV
open PySem L2
section
variable (C : CA) {n : Int} {ss : List Stp} {bs : List Int} {hs : List Nat} (m : MOk n ss bs) (h : HsOk ss hs)
abbrev etB : EvT := eTs (eOp aIsNot (eDGet (eVar 4) (eVar 5)) (eC .non))
abbrev bB : EvS := sSeq (sAsg (eDGet (eVar 4) (eVar 5)) (gTu 2 (gConss (gN 5) (gConss (gN 7) gNils)))) (sDrop (eApp 6 (eVar 7)))
include m h
theorem sp_run_for (v : List Nat) (lv : lows v) (hv : v.length ≤ 400) (p : Int) (h1 : 0 ≤ p) (h2 : p < n) :
    (¬ Rch ss hs bs v p ∧ F_run_for C none [macI C n ss bs, .str (mk hs), .str (mk v), .int p] = .ok (.d .non) none) ∨
    ∃ b sts, b ∈ bs ∧ Pth ss hs b sts v p ∧ sts.length ≤ 10000 ∧ F_run_for C none [macI C n ss bs, .str (mk hs), .str (mk v), .int p] = .ok (.t [.int b] (sts.map stpD)) none := by
  obtain ⟨L, e0, pI⟩ := sp_spots_from C (hs := hs) m v (by omega)
  have sv : (mk v).length ≤ sizeLine := by rw [len_mk]; exact Nat.le_trans hv (by decide)
  have sl : (mk v).length = v.length := len_mk v
  have sv3 : v.length ≤ sizeLine := Nat.le_trans hv (by decide)
  have w1 := sp_want_heard C m h
  have w2 := sp_want_word C v lv (by omega)
  have w3 := sp_want_place C (ss := ss) (bs := bs) m p h1 h2
  have hl := pI.len m.n8
  have hv2 : ¬ (400 : Int) < (v.length : Int) := by omega
  have ek : spD (p, v.length) = .tup [.int p, .int v.length] := rfl
  have e1 := dlook_par L (p, v.length)
  have e2 := lk_some L (p, v.length)
  have hr : SpR ss hs bs v (p, v.length) ↔ Rch ss hs bs v p := by
    rw [spR_iff m.z1, List.take_of_length_le (Nat.le_refl _)]
    exact ⟨fun x => x.2, fun x => ⟨Nat.le_refl _, x⟩⟩
  by_cases hc : (p, v.length) ∈ L.map (·.1)
  · have hR := hr.mp (pI.all.mp hc)
    rw [decide_eq_true hc] at e2
    obtain ⟨y, e2⟩ := Option.isSome_iff_exists.mp e2
    obtain ⟨en, hen, heq⟩ := List.mem_map.mp hc
    obtain ⟨j, hj⟩ := List.mem_iff_getElem?.mp hen
    let E1 : Nat × Sp × List Stp → Option Dat → Env := fun t x => [some (.d (macI C n ss bs)), some (.d (.str (mk hs))), some (.d (.str (mk v))), some (.d (.int p)), some (.d (parC L).dat), some (.d (spD t.2.1)), some (.c false (.lst (t.2.2.map stpD))), x.map Ow.d]
    obtain ⟨⟨j', a, acc⟩, x', e3, ⟨⟨e', he', ea'⟩, pt, lt⟩, dn⟩ := whileS_ex (τ := Nat × Sp × List Stp) (J := Option Dat) (et := etB) (body := bB)
      (P := fun t => (∃ e, L[t.1]? = some e ∧ e.1 = t.2.1) ∧ Pth ss hs t.2.1.1 t.2.2.reverse (v.drop t.2.1.2) p ∧ t.2.2.length + t.1 < L.length) (Done := fun t => t.2.1.1 ∈ bs ∧ t.2.1.2 = 0) E1 (fun t => t.1) (fun t x pt => by
        obtain ⟨j, a, acc⟩ := t
        obtain ⟨⟨e, he, rfl⟩, pp, lt⟩ := pt
        simp only at he pp lt
        have d1 := dlook_par L e.1
        have d2 := lk_at pI.nd he
        rw [d2] at d1
        rcases pI.par j e he with ⟨q1, q2, q3⟩ | ⟨a, s, q1, q2, q3, j', e', q4, q5, q6⟩
        · refine .inr ⟨?_, q2, q3⟩
          have d3 : vvE e = .non := by unfold vvE; rw [q1]
          rw [d3] at d1
          simp [E1, -Cel.dat, -dlook, d1, nonD]
        · have d3 : vvE e = .tup [spD a, stpD s] := by unfold vvE; rw [q1]
          rw [d3] at d1
          refine .inl ⟨E1 (j, e.1, acc) x, (j', a, acc ++ [s]), some (stpD s), ?_, ?_, ⟨⟨e', q5, q6⟩, ?_, ?_⟩, q4⟩
          · simp [E1, -Cel.dat, -dlook, d1, nonD]
          · have la : acc.length < 100000 := by omega
            rcases x with _ | x <;> simp [E1, -Cel.dat, -dlook, d1, la]
          · show Pth ss hs a.1 (acc ++ [s]).reverse (v.drop a.2) p
            rw [List.reverse_append]
            exact pth_nx q3 q2 (m.z1 s q2) pp
          · simp only [List.length_append, List.length_singleton]; omega) wFuel (j, (p, v.length), []) none ⟨⟨en, hj, heq⟩, by
            show Pth ss hs p [] (v.drop v.length) p
            exact ⟨List.drop_of_length_le (Nat.le_refl _), rfl⟩, by
            have := (List.getElem?_eq_some_iff.mp hj).1
            simpa using this⟩ (by
            have := (List.getElem?_eq_some_iff.mp hj).1
            unfold wFuel
            simp only
            omega)
    refine .inr ⟨a.1, acc.reverse, dn.1, ?_, ?_, ?_⟩
    · rw [dn.2] at pt
      exact pt
    · rw [List.length_reverse]
      simp only at lt
      omega
    · simp only [E1] at e3
      rw [ek] at e1 e3
      simp [-Cel.dat, -dlook] at e3
      simp [F_run_for, w1, w2, w3, e0, -Cel.dat, -dlook, e1, e2, sv, sv3, sl, hv2, e3, spD, dat_lst]
  · have hR : ¬ Rch ss hs bs v p := fun r => hc (pI.all.mpr (hr.mpr r))
    rw [decide_eq_false hc] at e2
    replace e2 : lk L (p, v.length) = none := by cases q : lk L (p, v.length) with
      | none => rfl
      | some y => rw [q] at e2; cases e2
    refine .inl ⟨hR, ?_⟩
    rw [ek] at e1
    simp [F_run_for, w1, w2, w3, e0, -Cel.dat, -dlook, e1, e2, sv, sv3, sl, hv2]
end
end DV

set_option autoImplicit false
set_option linter.all false
set_option maxRecDepth 100000
namespace DV
open PySem L2
theorem in_nil (x : Str) : aInB (.str (mk [])) (.str x) = some true := by
  show some (!(Builtin.Str.occurrences x (mk []) 0 x.length 1).isEmpty) = some true
  rcases StrLaws.occ_head x (mk []) 1 (Nat.le_refl _) with ⟨_, h⟩ | ⟨i, r, h, _⟩
  · exact absurd ⟨Nat.zero_le _, by
      show ((x.cps.extract 0 (0 + 0)) == #[]) = true
      simp⟩ (h 0)
  · rw [h]; rfl
/-- z in heard, for z of a step -/
def inH (hs z : List Nat) : Bool := decide (∀ k ∈ z, k ∈ hs)
theorem in_heard {hs z : List Nat} (hz : z.length ≤ 1) : aInB (.str (mk z)) (.str (mk hs)) = some (inH hs z) := by
  match z, hz with
  | [], _ => rw [in_nil]; simp [inH]
  | [k], _ => rw [in_sgn]; simp [inH]
theorem hear_in {hs z : List Nat} (hz : z.length ≤ 1) : hear hs z = if inH hs z = true then z else [] := by
  match z, hz with
  | [], _ => simp [hear, inH]
  | [k], _ =>
    unfold hear
    by_cases h : k ∈ hs
    · rw [if_neg (quiet_not h), if_pos (by simp [inH, h])]
    · rw [if_pos (by simp [quiet, h]), if_neg (by simp [inH, h])]
theorem atI_last {α : Type} (l : List α) (a : α) : L2.atI (l ++ [a]) (-1) = some a := by
  have : L2.ixN (l.length + 1) (-1) = some l.length := by
    unfold L2.ixN
    simp
    omega
  unfold L2.atI
  simp [this]
theorem join_mk1 (gs : List (List Nat)) (h : ∀ z ∈ gs, z.length ≤ 1) (hl : gs.length ≤ 10000) : joinOf (.str (mk [])) (.lst (gs.map fun z => Dat.str (mk z))) = some (.str (mk gs.flatten)) := by
  have e4 := strsOf_map (gs.map mk)
  rw [List.map_map] at e4
  have e4' : strsOf (gs.map fun z => Dat.str (mk z)) = some (gs.map mk) := e4
  have sm : ((gs.map mk).map (·.length)).sum ≤ gs.length := by
    clear e4 e4' hl
    induction gs with
    | nil => exact Nat.le_refl _
    | cons z gs ih =>
      have i1 := ih fun x hx => h x (List.mem_cons_of_mem _ hx)
      have i2 := h z List.mem_cons_self
      simp only [List.map_cons, List.sum_cons, List.length_cons, len_mk]
      omega
  unfold joinOf
  simp only [e4', Option.bind_some]
  rw [if_pos, join_mk]
  have : (mk []).length = 0 := rfl
  rw [this]
  omega
section
variable (C : CA) {n : Int} {ss : List Stp} {bs : List Int} {hs : List Nat}
theorem pth_all {p q : Int} {sts : List Stp} {w : List Nat} (h : Pth ss hs p sts w q) : ∀ s ∈ sts, s ∈ ss := by
  induction sts generalizing p w with
  | nil => exact fun s hs => nomatch hs
  | cons s sts ih =>
    obtain ⟨_, h2, u, _, h4⟩ := h
    intro x hx
    rcases List.mem_cons.mp hx with rfl | hx
    · exact h2
    · exact ih h4 x hx
theorem pth_hear {p q : Int} {sts : List Stp} {w : List Nat} (h : Pth ss hs p sts w q) : sts.flatMap (fun s => hear hs s.2.1) = w := by
  induction sts generalizing p w with
  | nil => exact h.1.symm
  | cons s sts ih =>
    obtain ⟨_, h2, u, e, h4⟩ := h
    rw [List.flatMap_cons, ih h4, e]
theorem pth_last {p q : Int} {sts : List Stp} {s : Stp} {w : List Nat} (h : Pth ss hs p (sts ++ [s]) w q) : s.2.2 = q := by
  induction sts generalizing p w with
  | nil =>
    obtain ⟨_, _, u, _, h4⟩ := h
    exact h4.2
  | cons s' sts ih =>
    obtain ⟨_, _, u, _, h4⟩ := h
    exact ih h4
variable (m : MOk n ss bs)
include m
def runD (b : Int) (sts : List Stp) : Dat := .tup [.int b, .lst (sts.map stpD)]
theorem sp_is_run {b q : Int} {sts : List Stp} {w : List Nat} (hb : b ∈ bs) (h : Pth ss hs b sts w q) : F_is_run C none [macI C n ss bs, runD b sts] = .ok (.d (.bl true)) none := by
  let E1 : Int → Option Dat → Env := fun p j => [some (.d (macI C n ss bs)), some (.d (runD b sts)), some (.d (.int p)), some (.d (.lst (ss.map stpD))), j.map Ow.d]
  obtain ⟨j', e, _⟩ := forS_exR (α := Stp) (τ := Int) (J := Option Dat) (eg := gN 4) (body := sSeq (sIf (eOr (eNot (eTs (eVD (eCall 2 0 (F_is_step C) (fun es _ => es) (eCons (eVar 4) (eCons (eVD (eProp C.Machine (F_Machine_places C) (eVar 0))) eNil)) eNil)))) (eOr (eTs (eOp aNotIn (eVar 4) (eVar 3))) (eTs (eOp aNe (eOp aIx (eVar 4) (eC (.int 0))) (eVar 2)))))
      (sRetD (eC (.bl false)))
      sNext)
      (sAsg (eOp aIx (eVar 4) (eC (.int 2))) (gN 2))) (P := fun as p => ∃ w, Pth ss hs p as w q) E1 (fun _ s => s.2.2) stpD sts (fun p j s as' pt => by
      obtain ⟨w, e1, e2, u, e3, e4⟩ := pt
      have i1 := in_stp (s := s) (ss := ss) m.zl (m.zl s e2)
      have i2 := sp_is_step C n s (m.st s e2)
      rw [decide_eq_true e2] at i1
      refine ⟨E1 p (some (stpD s)), some (stpD s), by rcases j with _ | j <;> simp [E1], .inl ?_, u, e4⟩
      obtain ⟨a, z, b⟩ := s
      simp only at e1
      subst e1
      simp [E1, i1, i2]
      simp [stpD]) b none ⟨w, h⟩
  have hb1 := m.br b hb
  simp only [E1] at e
  simp [F_is_run, runD, sp_is_place, hb1.1, hb1.2, in_int, hb, sp_is_listL]
  simp [runD] at e
  simp [e]
theorem sp_want_run {b q : Int} {sts : List Stp} {w : List Nat} (hb : b ∈ bs) (h : Pth ss hs b sts w q) : F_want_run C none [macI C n ss bs, runD b sts] = .ok (.d .non) none := by
  simp [F_want_run, sp_is_run C m hb h]
theorem sp_stop_of {b q : Int} {sts : List Stp} {w : List Nat} (hb : b ∈ bs) (h : Pth ss hs b sts w q) (hl : sts.length ≤ 10000) : F_stop_of C none [macI C n ss bs, runD b sts] = .ok (.d (.int q)) none := by
  have e := sp_want_run C m hb h
  rcases List.eq_nil_or_concat sts with rfl | ⟨init, s, rfl⟩
  · have : b = q := h.2
    subst this
    simp [F_stop_of, e]
    simp [runD]
  · rw [List.concat_eq_append] at *
    have : s.2.2 = q := pth_last h
    subst this
    have e2 := atI_last (init.map stpD) (stpD s)
    have l2 : init.length + 1 ≤ sizeLine := by
      have : 10000 ≤ sizeLine := by decide
      simp only [List.length_append, List.length_singleton] at hl
      omega
    simp [F_stop_of, e]
    simp [runD, e2, l2]
    simp [stpD]
theorem sp_heard_of (h : HsOk ss hs) {b q : Int} {sts : List Stp} {w : List Nat} (hb : b ∈ bs) (p : Pth ss hs b sts w q) (hl : sts.length ≤ 10000) : F_heard_of C none [macI C n ss bs, .str (mk hs), runD b sts] = .ok (.d (.str (mk w))) none := by
  have e1 := sp_want_run C m hb p
  have e2 := sp_want_heard C m h
  let E0 : List (Option Ow) := [some (.d (macI C n ss bs)), some (.d (.str (mk hs))), some (.d (runD b sts)), none, none, none]
  obtain ⟨s', e, _⟩ := lcS_map (eg := gTu 3 (gConss (gN 3) (gConss (gN 4) (gConss (gN 5) gNils)))) (et := eTs (eOp aIn (eVar 4) (eVar 1))) (ea := eVar 4) (vs := [3, 4, 5]) (s0 := E0) stpD (fun s => inH hs s.2.1) (fun s => .str (mk s.2.1)) sts
    (fun s hs' => ⟨[some (.d (macI C n ss bs)), some (.d (.str (mk hs))), some (.d (runD b sts)), some (.d (.int s.1)), some (.d (.str (mk s.2.1))), some (.d (.int s.2.2))], [some (.d (macI C n ss bs)), some (.d (.str (mk hs))), some (.d (runD b sts)), some (.d (.int s.1)), some (.d (.str (mk s.2.1))), some (.d (.int s.2.2))], by simp [E0, stpD], by
      have := in_heard (hs := hs) (m.z1 s (pth_all p s hs'))
      simp [E0, this], fun _ => by simp [E0], fun _ => ⟨[some (.d (macI C n ss bs)), some (.d (.str (mk hs))), some (.d (runD b sts)), some (.d (.int s.1)), some (.d (.str (mk s.2.1))), some (.d (.int s.2.2))], by simp [E0], by simp [E0]⟩⟩) E0 [] (by simp [E0]) (by simp; omega)
  simp only [List.nil_append] at e
  have hw : (sts.filter fun s => inH hs s.2.1).flatMap (fun s => s.2.1) = w := by
    rw [← pth_hear p]
    have hz : ∀ s ∈ sts, s.2.1.length ≤ 1 := fun s hs' => m.z1 s (pth_all p s hs')
    have key : ∀ sts : List Stp, (∀ s ∈ sts, s.2.1.length ≤ 1) → (sts.filter fun s => inH hs s.2.1).flatMap (fun s => s.2.1) = sts.flatMap fun s => hear hs s.2.1 := by
      intro sts
      induction sts with
      | nil => exact fun _ => rfl
      | cons s sts ih =>
        intro hz
        have i1 := ih fun x hx => hz x (List.mem_cons_of_mem _ hx)
        rw [List.flatMap_cons, ← i1, hear_in (hz s List.mem_cons_self), List.filter_cons]
        cases inH hs s.2.1 <;> simp
    exact key sts hz
  obtain ⟨gs, hgs⟩ : ∃ gs, gs = (sts.filter fun s => inH hs s.2.1).map (·.2.1) := ⟨_, rfl⟩
  have hg : gs.flatten = w := by rw [hgs, ← hw]; rfl
  have e' : ((sts.filter fun s => inH hs s.2.1).map fun s => Dat.str (mk s.2.1)) = gs.map fun z => Dat.str (mk z) := by rw [hgs, List.map_map]; rfl
  rw [e'] at e
  have g1 : ∀ z ∈ gs, z.length ≤ 1 := fun z hz => by
    rw [hgs] at hz
    obtain ⟨s, hs', rfl⟩ := List.mem_map.mp hz
    exact m.z1 s (pth_all p s (List.mem_filter.mp hs').1)
  have g2 : gs.length ≤ 10000 := by
    rw [hgs, List.length_map]
    exact Nat.le_trans (List.length_filter_le _ _) hl
  have ej := join_mk1 gs g1 g2
  rw [hg] at ej
  simp [E0, runD] at e
  simp [F_heard_of, e1, e2]
  simp [runD, e, ej]
end
end DV

set_option autoImplicit false
set_option linter.all false
set_option maxRecDepth 100000
namespace DV
open PySem L2
def PotOk (c : Cel) : Prop := ∃ a b : Int, c = .lst [.int a, .int b] ∧ 0 ≤ b ∧ b < 4294967296
theorem fm_lt {a m : Int} (h : 0 < m) : 0 ≤ a.fmod m ∧ a.fmod m < m := by
  rw [Int.fmod_eq_emod_of_nonneg _ (by omega)]
  exact ⟨Int.emod_nonneg _ (by omega), Int.emod_lt_of_pos _ h⟩
theorem mul_ok {a b : Int} (ha : a.natAbs < 2 ^ 200) (hb : b.natAbs < 2 ^ 200) : a.natAbs.log2 + b.natAbs.log2 < 1000000 := by
  have := log_lt ha (by decide)
  have := log_lt hb (by decide)
  omega
theorem sp_draw (C : CA) {c : Cel} (h : PotOk c) {z : Int} (h0 : 0 < z) (h1 : z < 1000000) : ∃ d c', F__law_draw C (some c) [.int z] = .ok (.d (.int d)) (some c') ∧ 0 ≤ d ∧ d < z ∧ PotOk c' := by
  obtain ⟨a, b, rfl, hb0, hb1⟩ := h
  have pl : Builtin.divisionGoesByPylong a z = false := PyProof.noPylong_of_log2 (Nat.lt_trans (log_lt (k := 20) (by omega) (by decide)) (by decide))
  have z0 : z ≠ 0 := by omega
  by_cases ha : 0 < a
  · refine ⟨a % z, .lst [.int (a / z), .int b], ?_, Int.emod_nonneg _ z0, Int.emod_lt_of_pos _ h0, _, _, rfl, hb0, hb1⟩
    simp [F__law_draw, ha, h0, pl, ixN]
  · obtain ⟨b', hb'⟩ : ∃ b', b' = (b * 48271 + 11411).fmod 2147483587 := ⟨_, rfl⟩
    have hr : 0 ≤ b' ∧ b' < 2147483587 := by rw [hb']; exact fm_lt (by decide)
    have m1 : b.natAbs.log2 + Nat.log2 48271 < 1000000 := mul_ok (b := 48271) (by omega) (by decide)
    have m2 : b'.natAbs.log2 + b'.natAbs.log2 < 1000000 := mul_ok (by omega) (by omega)
    have m3 : Nat.log2 11 < 9000 := by decide +kernel
    refine ⟨(((b' * b').fmod 2147483549).fdiv 11).fmod z, .lst [.int a, .int b'], ?_, (fm_lt h0).1, (fm_lt h0).2, _, _, rfl, hr.1, by omega⟩
    simp only [F__law_draw]
    simp [ha, ixN, m1, ← hb', m2, m3, z0]
theorem sp_pick (C : CA) {c : Cel} (h : PotOk c) {α : Type} (enc : α → Dat) {l : List α} (hl : l ≠ []) (h1 : l.length < 1000000) : ∃ x c', x ∈ l ∧ F__law_pick C (some c) [.lst (l.map enc)] = .ok (.d (enc x)) (some c') ∧ PotOk c' := by
  have l0 : 0 < l.length := List.length_pos_iff.mpr hl
  obtain ⟨d, c', e, d0, d1, hc⟩ := sp_draw C h (z := l.length) (by omega) (by omega)
  obtain ⟨k, rfl⟩ : ∃ k : Nat, d = k := ⟨d.toNat, by omega⟩
  have hk : k < l.length := by omega
  refine ⟨l[k], c', List.getElem_mem _, ?_, hc⟩
  have e2 : L2.atI (l.map enc) (k : Int) = some (enc l[k]) := L2.atI_nat (by simp [hk])
  simp [F__law_pick, e, e2]
theorem sp_pot (C : CA) (ns : List Int) (hn : ns.length ≤ 63) (k : Nat) (hk : k < 3) : ∃ c, F__law_pot C none [.lst (ns.map Dat.int), .int k] = .ok (.c c) none ∧ PotOk c := by
  have key : ∀ cell : Int, ∃ a b : Int, ∀ s : Env, s[2]? = some (some (.d (.int cell))) → s[1]? = some (some (.d (.int k))) → eLst (eCons (eCB aMax (eCons (eC (.int 0)) (eCons (eOp aSub (eVar 2) (eOp aPow (eC (.int 10)) (eC (.int 18)))) eNil))) (eCons (eOp aAdd (eOp aMod (eOp aMul (eCB aInt (eCons (eOp aAdd (eOp aMod (eCB aInt (eCons (eVar 2) eNil)) (eC (.int 2147483549))) (eC (.int 5))) eNil)) (eOp aPow (eOp aAdd (eOp aMul (eC (.int 2)) (eVar 1)) (eC (.int 3))) (eC (.int 3)))) (eC (.int 2147483477))) (eC (.int 1))) eNil)) s = .ok (.lst [.int a, .int b]) s ∧ 0 ≤ b ∧ b < 4294967296 := by
    intro cell
    obtain ⟨u, hu⟩ : ∃ u, u = cell.fmod 2147483549 + 5 := ⟨_, rfl⟩
    have hr : 0 ≤ u ∧ u < 2147483560 := by have := fm_lt (a := cell) (m := 2147483549) (by decide); omega
    obtain ⟨w, hw⟩ : ∃ w : Int, w = (2 * (k : Int) + 3) ^ 3 := ⟨_, rfl⟩
    have hw2 : w.natAbs < 2 ^ 20 := by
      rw [hw]
      match k, hk with
      | 0, _ => decide
      | 1, _ => decide
      | 2, _ => decide
    have m1 : Nat.log2 2 + k.log2 < 1000000 := mul_ok (a := 2) (b := (k : Int)) (by decide) (by omega)
    have m2 : u.natAbs.log2 + w.natAbs.log2 < 1000000 := mul_ok (by omega) (by omega)
    have m3 : (2 * (k : Int) + 3).natAbs < 2 ^ 64 := by omega
    have hb := fm_lt (a := u * w) (m := 2147483477) (by decide)
    refine ⟨max 0 (cell - 10 ^ 18), (u * w).fmod 2147483477 + 1, fun s e2 e1 => ⟨?_, by omega, by omega⟩⟩
    simp [e1, e2, m1, ← hu, ← hw, m3, m2]
  have m1 : Nat.log2 29 + k.log2 < 1000000 := mul_ok (a := 29) (b := (k : Int)) (by decide) (by omega)
  by_cases h : k < ns.length
  · obtain ⟨a, b, e⟩ := key (ns[k].natAbs : Int)
    have e1 := (e [some (.d (.lst (ns.map Dat.int))), some (.d (.int k)), some (.d (.int (ns[k].natAbs : Int)))] rfl rfl)
    have e2 : L2.atI (ns.map Dat.int) (k : Int) = some (.int ns[k]) := L2.atI_nat (by simp [h])
    refine ⟨_, ?_, a, b, rfl, e1.2⟩
    simp [F__law_pot, -eLst, m1, h, e2, e1.1]
  · obtain ⟨a, b, e⟩ := key (29 * (k : Int) + 17)
    have e1 := (e [some (.d (.lst (ns.map Dat.int))), some (.d (.int k)), some (.d (.int (29 * (k : Int) + 17)))] rfl rfl)
    refine ⟨_, ?_, a, b, rfl, e1.2⟩
    simp [F__law_pot, -eLst, m1, h, e1.1]
end DV

set_option autoImplicit false
set_option linter.all false
set_option maxRecDepth 100000
namespace DV
open PySem L2
theorem forS_inv {α : Type} {eg : EvG} {body : EvS} {P : List α → Env → Prop} (enc : α → Dat) : ∀ (as : List α), (∀ a as' s, P (a :: as') s → ∃ s1 s2, eg (enc a) s = .ok () s1 ∧ (body s1 = .nx s2 ∨ body s1 = .ct s2) ∧ P as' s2) →
    ∀ s, P as s → ∃ s', forS eg body (as.map enc) s = .nx s' ∧ P [] s'
  | [], h, s, p => ⟨s, rfl, p⟩
  | a :: as, h, s, p => by
    obtain ⟨s1, s2, e1, e2, p1⟩ := h a as s p
    obtain ⟨s', e3, p2⟩ := forS_inv enc as h s2 p1
    refine ⟨s', ?_, p2⟩
    show forS eg body (enc a :: as.map enc) s = _
    unfold forS
    rcases e2 with e2 | e2 <;> simp only [e1, e2, Out.bind_ok, SR.of] <;> exact e3
abbrev kMany : Str := "many"
abbrev kSteps : Str := "steps"
abbrev kBegins : Str := "begins"
def netD (x : Net) : Dat := .dct [.inr kMany, .inr kSteps, .inr kBegins] [.int x.n, .lst (x.ss.map stpD), .lst (x.bs.map Dat.int)]
theorem disp3 (a b c : Dat) : dispOf [(.str kMany, a), (.str kSteps, b), (.str kBegins, c)] = some ([.inr kMany, .inr kSteps, .inr kBegins], [a, b, c]) := rfl
theorem net_many (x : Net) : dlook (netD x) (.str kMany) = some (some (.int x.n)) := rfl
theorem net_steps (x : Net) : dlook (netD x) (.str kSteps) = some (some (.lst (x.ss.map stpD))) := rfl
theorem net_begins (x : Net) : dlook (netD x) (.str kBegins) = some (some (.lst (x.bs.map Dat.int))) := rfl
def menus : List (List (List Nat)) := [[[97], [98], []], [[97], [98], [99], []], [[97], []], [[122], [107]]]
def menD (l : List (List Nat)) : Dat := .lst (l.map fun z => .str (mk z))
theorem menus_ok : ∀ l ∈ menus, l ≠ [] ∧ l.length ≤ 4 ∧ l.flatten.length ≤ 6 ∧ ∀ z ∈ l, z.length ≤ 1 ∧ ∀ k ∈ z, 97 ≤ k ∧ k ≤ 122 := by decide
theorem map_of_rel {α : Type} {f : α → Dat} : ∀ (bs : List α) (ds : List Dat), bs.length = ds.length → (∀ (i : Nat) (a : α) (d : Dat), bs[i]? = some a → ds[i]? = some d → d = f a) → ds = bs.map f
  | [], [], _, _ => rfl
  | [], d :: ds, h, _ => by simp at h
  | a :: bs, [], h, _ => by simp at h
  | a :: bs, d :: ds, h, r => by
    rw [List.map_cons, ← map_of_rel bs ds (by simpa using h) fun i a d h1 h2 => r (i + 1) a d (by simpa using h1) (by simpa using h2)]
    rw [r 0 a d rfl rfl]
theorem lets_few {ss : List Stp} {menu : List (List Nat)} (h : ∀ s ∈ ss, s.2.1 ∈ menu) (h1 : ∀ z ∈ menu, z.length ≤ 1) (hl : menu.flatten.length ≤ 6) : (lets ss).length ≤ 6 := by
  have hz : ∀ z ∈ ss.map (·.2.1), z.length ≤ 1 := fun z hz => by
    obtain ⟨s, hs, rfl⟩ := List.mem_map.mp hz
    exact h1 _ (h s hs)
  have nd : (lets ss).Nodup := (asc_ltrs hz).imp fun {a b} h e => by subst e; simp [ltN] at h
  refine Nat.le_trans (nodup_lenG nd fun k hk => ?_) hl
  obtain ⟨z, hz, hk⟩ := mem_ltrs.mp hk
  obtain ⟨s, hs, rfl⟩ := List.mem_map.mp hz
  exact List.mem_flatten.mpr ⟨_, h s hs, hk⟩
theorem sp_net (C : CA) {c : Cel} (h : PotOk c) : ∃ x c', F__law_net C (some c) [.int 5] = .ok (.d (netD x)) (some c') ∧ NetOk x ∧ x.n ≤ 5 ∧ PotOk c' := by
  obtain ⟨d0, c1, e1, d1, d2, h1⟩ := sp_draw C h (z := 5) (by decide) (by decide)
  obtain ⟨n, hn⟩ : ∃ n, n = 1 + d0 := ⟨_, rfl⟩
  obtain ⟨menu, c2, hm, e2, h2⟩ := sp_pick C h1 menD (l := menus) (by decide) (by decide)
  obtain ⟨m0, ml, m6, mz⟩ := menus_ok menu hm
  obtain ⟨d3, c3, e3, d4, d5, h3⟩ := sp_draw C h2 (z := 3 * n + 2) (by omega) (by omega)
  obtain ⟨k, rfl⟩ : ∃ k : Nat, d3 = k := ⟨d3.toNat, by omega⟩
  have em : menus.map menD = [.lst [.str "a", .str "b", .str (mk [])], .lst [.str "a", .str "b", .str "c", .str (mk [])], .lst [.str "a", .str (mk [])], .lst [.str "z", .str "k"]] := rfl
  rw [em] at e2
  let E : Cel → List Stp → Option Dat → Option Dat → Env := fun c rows j5 j6 => [some (.c true c), some (.d (.int 5)), some (.d (.int n)), some (.d (menD menu)), some (.c false (.lst (rows.map stpD))), j5.map Ow.d, j6.map Ow.d, none, none]
  obtain ⟨_, e4, c4, rows, j5, j6, rfl, h4, rok, rnd, rl⟩ := forS_inv (α := Nat) (eg := gN 5) (body := sSeq (sAsg (eTup (eCons (eVD (eCallC 0 2 0 (F__law_draw C) (fun es _ => es) (eCons (eVar 2) eNil) eNil)) (eCons (eVD (eCallC 0 2 0 (F__law_pick C) (fun es _ => es) (eCons (eVar 3) eNil) eNil)) (eCons (eVD (eCallC 0 2 0 (F__law_draw C) (fun es _ => es) (eCons (eVar 2) eNil) eNil)) eNil)))) (gN 6))
      (sIf (eLoT (eTs (eOp aNotIn (eVar 6) (eVar 4))))
      (sDrop (eApp 4 (eVar 6)))
      sNext)) (P := fun as s => ∃ c rows j5 j6, s = E c rows j5 j6 ∧ PotOk c ∧ (∀ s ∈ rows, StOk n s ∧ s.2.1 ∈ menu) ∧ rows.Nodup ∧ rows.length + as.length ≤ 20) (fun i : Nat => Dat.int i) (List.range k) (fun i as' s ps => by
      obtain ⟨c, rows, j5, j6, rfl, hc, rok, rnd, rl⟩ := ps
      obtain ⟨a, ca, ea, a0, a1, hca⟩ := sp_draw C hc (z := n) (by omega) (by omega)
      obtain ⟨z, cz, hz, ez, hcz⟩ := sp_pick C hca (fun z => Dat.str (mk z)) (l := menu) m0 (by omega)
      obtain ⟨b, cb, eb, b0, b1, hcb⟩ := sp_draw C hcz (z := n) (by omega) (by omega)
      simp only [List.length_cons] at rl
      have so : StOk n (a, z, b) := ⟨⟨a0, a1⟩, ⟨b0, b1⟩, (mz z hz).2, (mz z hz).1⟩
      have ei := in_stp (ss := rows) (s := (a, z, b)) (fun s hs => (rok s hs).1.z.1) so.z.1
      have ez' : F__law_pick C (some ca) [menD menu] = .ok (.d (.str (mk z))) (some cz) := ez
      have es : stpD (a, z, b) = .tup [.int a, .str (mk z), .int b] := rfl
      rw [es] at ei
      by_cases hi : (a, z, b) ∈ rows
      · refine ⟨E c rows (some (.int i)) j6, E cb rows (some (.int i)) (some (stpD (a, z, b))), by rcases j5 with _ | j5 <;> simp [E], .inl ?_, cb, rows, _, _, rfl, hcb, rok, rnd, by omega⟩
        rw [decide_eq_true hi] at ei
        rcases j6 with _ | j6 <;> simp [E, ea, ez', eb, ei, es]
      · refine ⟨E c rows (some (.int i)) j6, E cb (rows ++ [(a, z, b)]) (some (.int i)) (some (stpD (a, z, b))), by rcases j5 with _ | j5 <;> simp [E], .inl ?_, cb, rows ++ [(a, z, b)], _, _, rfl, hcb, fun s hs => ?_, ?_, ?_⟩
        · rw [decide_eq_false hi] at ei
          have l5 : rows.length < 100000 := by omega
          rcases j6 with _ | j6 <;> simp [E, ea, ez', eb, ei, es, l5]
        · rcases List.mem_append.mp hs with hs | hs
          · exact rok s hs
          · rw [List.mem_singleton] at hs
            subst hs
            exact ⟨so, hz⟩
        · exact List.nodup_append.mpr ⟨rnd, by simp, fun p hp q hq e => by
            rw [List.mem_singleton] at hq
            subst hq e
            exact hi hp⟩
        · simp only [List.length_append, List.length_singleton]; omega) (E c3 [] none none) ⟨c3, [], none, none, rfl, h3, (fun _ h => nomatch h), List.nodup_nil, by simp; omega⟩
  obtain ⟨nk, hnk⟩ : ∃ m : Nat, n = m := ⟨n.toNat, by omega⟩
  let E2 : Cel → Env := fun c => [some (.c true c), some (.d (.int 5)), some (.d (.int n)), some (.d (menD menu)), some (.c false (.lst (rows.map stpD))), j5.map Ow.d, j6.map Ow.d, none, none]
  obtain ⟨bs, ds, s5, e5, ⟨c5, h5, w5⟩, sub, bl, br⟩ := lcS_rel (eg := gN 8) (et := eTs (eOp aEq (eVD (eCallC 0 2 0 (F__law_draw C) (fun es _ => es) (eCons (eC (.int 3)) eNil) eNil)) (eC (.int 0)))) (ea := eVar 8) (vs := [8]) (I := fun s => ∃ c, PotOk c ∧ s = E2 c) (R := fun (a : Nat) d => d = .int a) (fun i : Nat => Dat.int i) (List.range nk) (fun i hi s hs => by
      obtain ⟨c, hc, rfl⟩ := hs
      obtain ⟨a, ca, ea, a0, a1, hca⟩ := sp_draw C hc (z := 3) (by decide) (by decide)
      refine ⟨[some (.c true c), some (.d (.int 5)), some (.d (.int n)), some (.d (menD menu)), some (.c false (.lst (rows.map stpD))), j5.map Ow.d, j6.map Ow.d, none, some (.d (.int i))], decide (a = 0), [some (.c true ca), some (.d (.int 5)), some (.d (.int n)), some (.d (menD menu)), some (.c false (.lst (rows.map stpD))), j5.map Ow.d, j6.map Ow.d, none, some (.d (.int i))], by simp [E2], by simp [ea], fun _ => ⟨ca, hca, by simp [E2]⟩, fun _ => ⟨.int i, _, rfl, rfl, ca, hca, by simp [E2]⟩⟩) (E2 c4) [] ⟨c4, h4, by simp [E2]⟩ (by simp; omega)
  simp only [List.nil_append] at e5
  have hds := map_of_rel (f := fun i : Nat => Dat.int i) bs ds bl br
  obtain ⟨fs, hfs⟩ : ∃ fs : List Int, fs = bs.map fun (i : Nat) => (i : Int) := ⟨_, rfl⟩
  have hds2 : ds = fs.map Dat.int := by rw [hds, hfs, List.map_map]; rfl
  have frng : ∀ b ∈ fs, 0 ≤ b ∧ b < n := fun b hb => by
    rw [hfs] at hb
    obtain ⟨i, hi, rfl⟩ := List.mem_map.mp hb
    have := List.mem_range.mp (sub.subset hi)
    omega
  have fnd : fs.Nodup := by
    rw [hfs]
    have : bs.Nodup := sub.nodup List.nodup_range
    exact this.map _ fun a b h e => h (by omega)
  have nok : ∀ bs : List Int, bs ≠ [] → (∀ b ∈ bs, 0 ≤ b ∧ b < n) → bs.Nodup → NetOk ⟨n, rows, bs⟩ := fun bs h1 h2 h3 => ⟨by show 1 ≤ n; omega, by show n ≤ 8; omega, fun s hs => (rok s hs).1, rnd, h1, h2, h3, by show rows.length ≤ 40; simp only [List.length_nil] at rl; omega, lets_few (fun s hs => (rok s hs).2) (fun z hz => (mz z hz).1) m6⟩
  have m1 : Nat.log2 3 + n.natAbs.log2 < 1000000 := mul_ok (a := 3) (b := n) (by decide) (by omega)
  simp only [E] at e4
  simp at e4
  simp only [E2] at e5 w5
  have r1 : (k : Int) ≤ 100000 ∧ -100000 ≤ (k : Int) := by omega
  have r2 : n ≤ 100000 ∧ -100000 ≤ n := by omega
  have e6 : n.toNat = nk := by omega
  by_cases hf : fs = []
  · obtain ⟨b, c6, e7, b0, b1, h6⟩ := sp_draw C h5 (z := n) (by omega) (by omega)
    refine ⟨⟨n, rows, [b]⟩, c6, ?_, nok [b] (by simp) (fun x hx => by rw [List.mem_singleton] at hx; subst hx; exact ⟨b0, b1⟩) (by simp), by show n ≤ 5; omega, h6⟩
    have s0 : shp (.lst []) = true := rfl
    have s1 : (toP (.lst [])).eqv (toP (.lst [])) = true := rfl
    rw [hds2, hf] at e5
    simp at e5
    simp [F__law_net, e1, ← hn, e2, m1, e3, e4, r1, r2, e6, e5, -wipeE, w5, s0, s1, e7, -dispOf, disp3]
    rfl
  · refine ⟨⟨n, rows, fs⟩, c5, ?_, nok fs hf frng fnd, by show n ≤ 5; omega, h5⟩
    have en := ne_nil fs
    rw [decide_eq_false hf] at en
    obtain ⟨fD, hD⟩ : ∃ fD, fD = fs.map Dat.int := ⟨_, rfl⟩
    rw [hds2, ← hD] at e5
    rw [← hD] at en
    simp at en
    simp [F__law_net, e1, ← hn, e2, m1, e3, e4, r1, r2, e6, e5, -wipeE, w5, en, -dispOf, disp3]
    simp [hD, netD]
end DV

set_option autoImplicit false
set_option linter.all false
set_option maxRecDepth 100000
namespace DV
open PySem L2
theorem srtS_mem {ss : List Stp} {s : Stp} : s ∈ srtS ss ↔ s ∈ ss := (srtS_perm ss).mem_iff
theorem srtI_mem {bs : List Int} {b : Int} : b ∈ srtI bs ↔ b ∈ bs := (srtI_perm bs).mem_iff
theorem mem_lets {ss : List Stp} {k : Nat} : k ∈ lets ss ↔ ∃ s ∈ ss, k ∈ s.2.1 := by
  unfold lets
  rw [mem_ltrs]
  constructor
  · rintro ⟨z, hz, hk⟩
    obtain ⟨s, hs, rfl⟩ := List.mem_map.mp hz
    exact ⟨s, hs, hk⟩
  · rintro ⟨s, hs, hk⟩
    exact ⟨s.2.1, List.mem_map.mpr ⟨s, hs, rfl⟩, hk⟩
section
variable (C : CA) {x : Net} (h : NetOk x)
include h
theorem mOk_net : MOk x.n (srtS x.ss) (srtI x.bs) where
  n8 := h.n8
  st s hs := h.ss s (srtS_mem.mp hs)
  few := by rw [(srtS_perm x.ss).length_eq]; exact h.few
  b0 e := h.b0 (by
    have := (srtI_perm x.bs).length_eq
    rw [e] at this
    exact List.eq_nil_of_length_eq_zero this.symm)
  br b hb := h.bs b (srtI_mem.mp hb)
  bn := (srtI_perm x.bs).nodup_iff.mpr h.bn
theorem sp_made : F__law_made C none [netD x] = .ok (.d (macI C x.n (srtS x.ss) (srtI x.bs))) none := by
  have e := sp_init C x h
  simp [F__law_made, -dlook, net_many, net_steps, net_begins, e]
theorem sp_signs : F__law_signs C none [netD x] = .ok (.d (.str (mk (lets x.ss)))) none := by
  have hz : ∀ s ∈ x.ss, s.2.1.length ≤ 1 := fun s hs => (h.ss s hs).z.2
  obtain ⟨s', e, w⟩ := lcS_map (eg := gTu 3 (gConss (gN 1) (gConss (gN 2) (gConss (gN 3) gNils)))) (et := eYes) (ea := eVar 2) (vs := [1, 2, 3]) (s0 := [some (.d (netD x)), none, none, none]) stpD (fun _ => true) (fun s => .str (mk s.2.1)) x.ss
    (fun s _ => ⟨[some (.d (netD x)), some (.d (.int s.1)), some (.d (.str (mk s.2.1))), some (.d (.int s.2.2))], [some (.d (netD x)), some (.d (.int s.1)), some (.d (.str (mk s.2.1))), some (.d (.int s.2.2))], by simp [stpD], by simp, fun z => (nomatch z), fun _ => ⟨[some (.d (netD x)), some (.d (.int s.1)), some (.d (.str (mk s.2.1))), some (.d (.int s.2.2))], by simp, by simp⟩⟩) [some (.d (netD x)), none, none, none] [] (by simp) (by have := h.few; simp; omega)
  have f1 : x.ss.filter (fun _ => true) = x.ss := by simp
  rw [f1] at e
  simp only [List.nil_append] at e
  obtain ⟨out, e1, e2⟩ := join_sset (zs := x.ss.map (·.2.1)) (fun z hz' => by
    obtain ⟨s, hs, rfl⟩ := List.mem_map.mp hz'
    exact hz s hs) (by have := h.few; simp; omega)
  rw [List.map_map] at e1
  have e1' : aSSet (.lst (x.ss.map fun s => Dat.str (mk s.2.1))) = some out := e1
  simp [F__law_signs, -dlook, net_steps, e, e1', e2]
  rfl
theorem sp_ears {c : Cel} (hc : PotOk c) : ∃ hs c', F__law_ears C (some c) [netD x] = .ok (.d (.str (mk hs))) (some c') ∧ HsOk (srtS x.ss) hs ∧ PotOk c' := by
  have hz : ∀ z ∈ x.ss.map (·.2.1), z.length ≤ 1 := fun z hz' => by
    obtain ⟨s, hs, rfl⟩ := List.mem_map.mp hz'
    exact (h.ss s hs).z.2
  have e0 := sp_signs C h
  have sx := h.six
  let E : Cel → Env := fun c => [some (.c true c), some (.d (netD x)), none]
  obtain ⟨hs, ds, s5, e5, ⟨c5, h5, w5⟩, sub, bl, br⟩ := lcS_rel (eg := gN 2) (et := eTs (eOp aGt (eVD (eCallC 0 2 0 (F__law_draw C) (fun es _ => es) (eCons (eC (.int 3)) eNil) eNil)) (eC (.int 0)))) (ea := eVar 2) (vs := [2]) (I := fun s => ∃ c, PotOk c ∧ s = E c) (R := fun (a : Nat) d => d = .str (sgn a)) (fun k : Nat => Dat.str (sgn k)) (lets x.ss) (fun i hi s hs => by
      obtain ⟨c, hc, rfl⟩ := hs
      obtain ⟨a, ca, ea, a0, a1, hca⟩ := sp_draw C hc (z := 3) (by decide) (by decide)
      refine ⟨[some (.c true c), some (.d (netD x)), some (.d (.str (sgn i)))], decide (0 < a), [some (.c true ca), some (.d (netD x)), some (.d (.str (sgn i)))], by simp [E], by simp [ea], fun _ => ⟨ca, hca, by simp [E]⟩, fun _ => ⟨.str (sgn i), _, rfl, rfl, ca, hca, by simp [E]⟩⟩) (E c) [] ⟨c, hc, by simp [E]⟩ (by simp; omega)
  simp only [List.nil_append] at e5
  have hds := map_of_rel (f := fun k : Nat => Dat.str (sgn k)) hs ds bl br
  rw [hds] at e5
  have asc : (lets x.ss).Pairwise (fun a b => ltN a b = true) := asc_ltrs hz
  refine ⟨hs, c5, ?_, ⟨asc.sublist sub, fun k hk => ?_, fun k hk => ?_, ?_⟩, h5⟩
  · have e3 : joinOf (.str (mk [])) (.lst (hs.map fun k => Dat.str (sgn k))) = some (.str (mk hs)) := by
      have e4 := strsOf_map (hs.map sgn)
      rw [List.map_map] at e4
      have e4' : strsOf (hs.map fun k => Dat.str (sgn k)) = some (hs.map sgn) := e4
      unfold joinOf
      simp only [e4', Option.bind_some]
      rw [if_pos, join_sgn]
      rw [join_len]
      have : (mk []).length = 0 := rfl
      rw [this]
      have := sub.length_le
      omega
    simp only [E] at e5 w5
    simp [F__law_ears, e0, e5, e3, -wipeE, w5]
  · obtain ⟨s, hs', hk⟩ := mem_lets.mp (sub.subset hk)
    exact (h.ss s hs').z.1 k hk
  · obtain ⟨s, hs', hk⟩ := mem_lets.mp (sub.subset hk)
    exact mem_lets.mpr ⟨s, srtS_mem.mpr hs', hk⟩
  · have := sub.length_le
    omega
end
end DV

set_option autoImplicit false
set_option linter.all false
set_option maxRecDepth 100000
namespace DV
open PySem L2
theorem eqv_sps (a b : Sp) : PyData.eqv (toP (spD a)) (toP (spD b)) = decide (a = b) := by
  obtain ⟨p, k⟩ := a
  obtain ⟨q, l⟩ := b
  show ((p == q) && (((k : Int) == (l : Int)) && true)) = _
  rw [Bool.eq_iff_iff]
  simp
  intro _
  omega
theorem in_sps {l : List Sp} {a : Sp} : aInB (spD a) (.lst (l.map spD)) = some (decide (a ∈ l)) := by
  have e : aInB (spD a) (.lst (l.map spD)) = if shp (spD a) = true ∧ shp (.lst (l.map spD)) = true then some (anyEq (l.map spD) (spD a)) else none := rfl
  rw [e, if_pos ⟨rfl, shp_sps l⟩]
  congr 1
  unfold anyEq
  rw [List.any_map, Bool.eq_iff_iff, List.any_eq_true, decide_eq_true_eq]
  constructor
  · rintro ⟨z, hz, e⟩
    have := eqv_sps z a
    rw [show PyData.eqv (toP (spD z)) (toP (spD a)) = true from e] at this
    rw [← of_decide_eq_true this.symm]
    exact hz
  · intro hz
    exact ⟨a, hz, by have := eqv_sps a a; rw [decide_eq_true rfl] at this; exact this⟩
def putN (hs v : List Nat) (a : Sp) (L : List PEn) (s : Stp) : List PEn := match nx1 hs v a s with
  | some c => putP a L (s, c)
  | none => L
theorem putN_fold (hs v : List Nat) (a : Sp) : ∀ (ss : List Stp) (L : List PEn), ss.foldl (putN hs v a) L = (nexts ss hs v a).foldl (putP a) L
  | [], L => rfl
  | s :: ss, L => by
    rw [List.foldl_cons, putN_fold]
    unfold nexts
    rw [List.filterMap_cons]
    unfold putN
    cases nx1 hs v a s <;> rfl
def fstD (L : List PEn) : List Dat := L.map fun e => spD e.1
section
variable (C : CA)
abbrev midQ : EvS := sIf (eAnd (eTs (eOp aEq (eVar 7) (eVar 5))) (eOr (eTs (eOp aEq (eVar 8) (eC (.str (mk []))))) (eTs (eOp aNotIn (eVar 8) (eVar 1)))))
      (sAsg (eTup (eCons (eVar 9) (eCons (eVar 6) eNil))) (gN 10))
      (sIf (eAnd (eTs (eOp aEq (eVar 7) (eVar 5))) (eAnd (eTs (eOp aLt (eVar 6) (eCB aLen (eCons (eVar 2) eNil)))) (eTs (eOp aEq (eOp aIx (eVar 2) (eVar 6)) (eVar 8)))))
      (sAsg (eTup (eCons (eVar 9) (eCons (eOp aAdd (eVar 6) (eC (.int 1))) eNil))) (gN 10))
      sNext)
abbrev finQ : EvS := sIf (eLoT (eAnd (eTs (eOp aIsNot (eVar 10) (eC .non))) (eTs (eOp aNotIn (eVar 10) (eVar 3)))))
      (sDrop (eApp 3 (eVar 10)))
      sNext
abbrev bQ : EvS := sSeq (sAsg (eC .non) (gN 10)) (sSeq midQ finQ)
abbrev gQ : EvG := gTu 3 (gConss (gN 7) (gConss (gN 8) (gConss (gN 9) gNils)))
def EQ (N : Dat) (hs v : List Nat) (i : Nat) (o5 o6 : Option Ow) (L : List PEn) (j : Option Dat × Option Dat × Option Dat × Option Dat) : Env :=
  [some (.d N), some (.d (.str (mk hs))), some (.d (.str (mk v))), some (.c false (.lst (fstD L))), some (.d (.int i)), o5, o6, j.1.map Ow.d, j.2.1.map Ow.d, j.2.2.1.map Ow.d, j.2.2.2.map Ow.d, none]
theorem turnQ (N : Dat) (hs v : List Nat) (hv : v.length ≤ 1000) (i : Nat) (a : Sp) (s : Stp) (hz : s.2.1.length ≤ 1) (L : List PEn) (j : Option Dat × Option Dat × Option Dat × Option Dat) (hl : L.length < 90000) :
    ∃ s1 j', gQ (stpD s) (EQ N hs v i (some (.d (.int a.1))) (some (.d (.int a.2))) L j) = .ok () s1 ∧ bQ s1 = .nx (EQ N hs v i (some (.d (.int a.1))) (some (.d (.int a.2))) (putN hs v a L s) j') := by
  obtain ⟨near, z, far⟩ := s
  obtain ⟨p, k⟩ := a
  simp only at hz
  have sv : v.length ≤ sizeLine := Nat.le_trans hv (by decide)
  have sv2 : (mk v).length ≤ sizeLine := by rw [len_mk]; exact sv
  have sl := len_mk v
  -- what later is
  have key : ∀ r : Option Sp, nx1 hs v (p, k) (near, z, far) = r → ∃ j', (match r with
      | some c => some (spD c)
      | none => some Dat.non) = j'.2.2.2 ∧ midQ (EQ N hs v i (some (.d (.int p))) (some (.d (.int k))) L (some (.int near), some (.str (mk z)), some (.int far), some .non)) = .nx (EQ N hs v i (some (.d (.int p))) (some (.d (.int k))) L j') := by
    intro r hr
    have e8 : nx1 hs v (p, k) (near, z, far) = if near = p then if quiet hs z = true then some (far, k) else if z = (v.drop k).take 1 then some (far, k + 1) else none else none := rfl
    rw [e8] at hr
    subst hr
    by_cases h1 : near = p
    · subst h1
      rw [if_pos rfl]
      match z, hz with
      | [], _ =>
        refine ⟨(some (.int near), some (.str (mk [])), some (.int far), some (spD (far, k))), by simp [quiet], ?_⟩
        simp [EQ, spD]
      | [c], _ =>
        by_cases h3 : c ∈ hs
        · rw [if_neg (quiet_not h3)]
          by_cases h2 : k < v.length
          · have hd : v.drop k = v[k] :: v.drop (k + 1) := List.drop_eq_getElem_cons h2
            have e2 : L2.atI v (k : Int) = some v[k] := L2.atI_nat (by simp [h2])
            have e4 : (v.drop k).take 1 = [v[k]] := by rw [hd]; rfl
            rw [e4]
            by_cases h4 : c = v[k]
            · rw [if_pos (by rw [h4])]
              refine ⟨(some (.int near), some (.str (mk [c])), some (.int far), some (spD (far, k + 1))), rfl, ?_⟩
              simp [EQ, spD, h2, h3, in_sgn, mk_inj, sv, sv2, sl, e2, h4]
              exact fun h => absurd (by rw [← h4]; exact h3) h
            · rw [if_neg (fun e => h4 (List.cons.inj e).1)]
              refine ⟨(some (.int near), some (.str (mk [c])), some (.int far), some .non), rfl, ?_⟩
              have h5 : ¬ sgn v[k] = mk [c] := fun e => h4 (sgn_inj.mp e).symm
              simp [EQ, spD, h2, h3, in_sgn, mk_inj, sv, sv2, sl, e2, h5]
          · have e4 : (v.drop k).take 1 = [] := by rw [List.drop_of_length_le (by omega)]; rfl
            rw [e4, if_neg (fun e => nomatch e)]
            refine ⟨(some (.int near), some (.str (mk [c])), some (.int far), some .non), rfl, ?_⟩
            simp [EQ, spD, h2, h3, in_sgn, mk_inj, sv, sv2, sl]
        · rw [if_pos (by simp [quiet, h3])]
          refine ⟨(some (.int near), some (.str (mk [c])), some (.int far), some (spD (far, k))), rfl, ?_⟩
          simp [EQ, spD, h3, in_sgn, mk_inj]
    · rw [if_neg h1]
      refine ⟨(some (.int near), some (.str (mk z)), some (.int far), some .non), rfl, ?_⟩
      simp [EQ, h1]
  obtain ⟨j', e10, a2⟩ := key _ rfl
  refine ⟨EQ N hs v i (some (.d (.int p))) (some (.d (.int k))) L (some (.int near), some (.str (mk z)), some (.int far), j.2.2.2), j', ?_, ?_⟩
  · obtain ⟨j1, j2, j3, j4⟩ := j
    rcases j1 with _ | j1 <;> rcases j2 with _ | j2 <;> rcases j3 with _ | j3 <;> simp [EQ, stpD]
  · have a1 : sAsg (eC .non) (gN 10) (EQ N hs v i (some (.d (.int p))) (some (.d (.int k))) L (some (.int near), some (.str (mk z)), some (.int far), j.2.2.2)) = .nx (EQ N hs v i (some (.d (.int p))) (some (.d (.int k))) L (some (.int near), some (.str (mk z)), some (.int far), some .non)) := by
      obtain ⟨j1, j2, j3, j4⟩ := j
      rcases j4 with _ | j4 <;> simp [EQ]
    have a3 : finQ (EQ N hs v i (some (.d (.int p))) (some (.d (.int k))) L j') = .nx (EQ N hs v i (some (.d (.int p))) (some (.d (.int k))) (putN hs v (p, k) L (near, z, far)) j') := by
      obtain ⟨j1, j2, j3, j4⟩ := j'
      simp only at e10
      unfold putN
      cases hc : nx1 hs v (p, k) (near, z, far) with
      | none =>
        rw [hc] at e10
        subst e10
        simp [EQ, nonD]
      | some c =>
        rw [hc] at e10
        subst e10
        have ei := in_sps (l := L.map (·.1)) (a := c)
        rw [List.map_map] at ei
        have ei' : aInB (spD c) (.lst (fstD L)) = some (decide (c ∈ L.map (·.1))) := ei
        have nn : nonD (spD c) = false := rfl
        have ll : (fstD L).length < 100000 := by unfold fstD; rw [List.length_map]; omega
        by_cases hm : c ∈ L.map (·.1)
        · have e3 : putP (p, k) L ((near, z, far), c) = L := by unfold putP; rw [if_pos hm]
          rw [decide_eq_true hm] at ei'
          simp only [e3]
          simp [EQ, nn, ei']
        · have e3 : putP (p, k) L ((near, z, far), c) = L ++ [(c, some ((p, k), (near, z, far)))] := by unfold putP; rw [if_neg hm]
          rw [decide_eq_false hm] at ei'
          have e4 : fstD (L ++ [(c, some ((p, k), (near, z, far)))]) = fstD L ++ [spD c] := by unfold fstD; simp
          simp only [e3]
          simp [EQ, nn, ei', ll, e4]
    show sSeq _ (sSeq _ _) _ = _
    simp only [sSeq, a1, a2, a3]
variable {x : Net} (h : NetOk x)
include h
theorem sp_pairs (hs v : List Nat) (hv : v.length ≤ 1000) : ∃ L, F__law_pairs C none [netD x, .str (mk hs), .str (mk v)] = .ok (.d (.lst (fstD L))) none ∧ SpI x.n x.ss hs x.bs v L L.length := by
  have lb : x.bs.length ≤ 8 := by
    have := nodup_len h.bn (m := rngI x.n) fun y hy => mem_rngI.mpr (h.bs y hy)
    rw [len_rngI] at this
    have := h.n8
    omega
  let L0 : List PEn := x.bs.map fun b => ((b, 0), none)
  have k0 : L0.map (·.1) = x.bs.map fun b => ((b, 0) : Sp) := by simp [L0]
  let E0 : List (Option Ow) := [some (.d (netD x)), some (.d (.str (mk hs))), some (.d (.str (mk v))), none, none, none, none, none, none, none, none, none]
  obtain ⟨s0, e0, w0⟩ := lcS_map (eg := gN 11) (et := eYes) (ea := eTup (eCons (eVar 11) (eCons (eC (.int 0)) eNil))) (vs := [11]) (s0 := E0) Dat.int (fun _ => true) (fun b => spD (b, 0)) x.bs
    (fun b _ => ⟨E0.set 11 (some (.d (.int b))), E0.set 11 (some (.d (.int b))), by simp [E0], by simp, fun z => (nomatch z), fun _ => ⟨E0.set 11 (some (.d (.int b))), by simp [E0, spD], by simp [E0]⟩⟩) E0 [] (by simp [E0]) (by simp; omega)
  have f1 : x.bs.filter (fun _ => true) = x.bs := by simp
  rw [f1] at e0
  simp only [List.nil_append] at e0
  have ef : (x.bs.map fun b => spD (b, 0)) = fstD L0 := by unfold fstD; rw [List.map_map]; rfl
  rw [ef] at e0
  have p0 : SpI x.n x.ss hs x.bs v L0 0 := by
    refine ⟨by rw [k0]; exact h.bn.map (fun b => ((b, 0) : Sp)) (fun a b h z => h (by cases z; rfl)), fun b hb => ?_, fun e he => ?_, fun j e he => ?_, fun j e hj => absurd hj (Nat.not_lt_zero _), Nat.zero_le _⟩
    · rw [k0]; exact List.mem_map.mpr ⟨b, hb, rfl⟩
    · obtain ⟨b, hb, rfl⟩ := List.mem_map.mp he
      exact ⟨h.bs b hb, Nat.zero_le _⟩
    · obtain ⟨b, hb, rfl⟩ := List.mem_map.mp (List.mem_of_getElem? he)
      exact .inl ⟨rfl, hb, rfl⟩
  have key := whileS_ex (τ := List PEn × Nat) (J := (Option Dat × Option Dat) × Option Dat × Option Dat × Option Dat × Option Dat) (et := eLoT (eTs (eOp aLt (eVar 4) (eCB aLen (eCons (eVar 3) eNil))))) (body := sSeq (sAsg (eIxV aIx 3 (eVar 4)) (gTu 2 (gConss (gN 5) (gConss (gN 6) gNils))))
      (sSeq (sFor (eWalk (eDGet (eVar 0) (eC (.str kSteps)))) gQ bQ)
      (sAsg (eOp aAdd (eVar 4) (eC (.int 1))) (gN 4))))
    (P := fun t => SpI x.n x.ss hs x.bs v t.1 t.2) (Done := fun t => t.2 = t.1.length)
    (fun t j => EQ (netD x) hs v t.2 (j.1.1.map Ow.d) (j.1.2.map Ow.d) t.1 j.2) (fun t => 8 * (v.length + 1) - t.2) (fun t j pt => by
      obtain ⟨L, i⟩ := t
      simp only at pt
      have ll := pt.len h.n8
      have lf : (fstD L).length = L.length := by unfold fstD; simp
      by_cases hw : i = L.length
      · refine .inr ⟨?_, hw⟩
        have : ¬ ((i : Int) < ((fstD L).length : Int)) := by omega
        simp [EQ, this]
      · have hi : i < L.length := by have := pt.le; omega
        obtain ⟨e0, he0⟩ : ∃ e0, L[i]? = some e0 := ⟨L[i], List.getElem?_eq_getElem hi⟩
        obtain ⟨new, f1, p2⟩ := pt.turn h.ss he0
        have e2 : L2.atI (fstD L) (i : Int) = some (spD e0.1) := L2.atI_nat (by unfold fstD; rw [List.getElem?_map, he0]; rfl)
        obtain ⟨j', e3, _⟩ := forS_exR (α := Stp) (τ := List PEn) (J := Option Dat × Option Dat × Option Dat × Option Dat) (eg := gQ) (body := bQ) (P := fun as L' => L'.length + as.length ≤ 20000 ∧ ∀ s ∈ as, s.2.1.length ≤ 1) (EQ (netD x) hs v i (some (.d (.int e0.1.1))) (some (.d (.int e0.1.2)))) (putN hs v e0.1) stpD x.ss (fun L' j' s as' p => by
          obtain ⟨q1, q2⟩ := p
          simp only [List.length_cons] at q1
          obtain ⟨s1, j1, e1, e2⟩ := turnQ (netD x) hs v hv i e0.1 s (q2 s List.mem_cons_self) L' j' (by omega)
          refine ⟨s1, j1, e1, .inl e2, ?_, fun s hs => q2 s (List.mem_cons_of_mem _ hs)⟩
          have : (putN hs v e0.1 L' s).length ≤ L'.length + 1 := by
            unfold putN
            split
            · unfold putP
              split
              · omega
              · simp
            · omega
          omega) L j.2 ⟨by have := h.few; omega, fun s hs => (h.ss s hs).z.2⟩
        rw [putN_fold, f1] at e3
        refine .inl ⟨EQ (netD x) hs v i (j.1.1.map Ow.d) (j.1.2.map Ow.d) L j.2, (L ++ new, i + 1), ((some (.int e0.1.1), some (.int e0.1.2)), j'), ?_, ?_, p2, ?_⟩
        · have : ((i : Int) < ((fstD L).length : Int)) := by omega
          simp [EQ, this]
        · simp only [EQ] at e3 ⊢
          obtain ⟨⟨j1, j2⟩, j3⟩ := j
          simp only at e3 ⊢
          rcases j1 with _ | j1 <;> rcases j2 with _ | j2 <;> simp [-dlook, net_steps, e2, spD, e3]
        · show 8 * (v.length + 1) - (i + 1) < 8 * (v.length + 1) - i
          omega) wFuel (L0, 0) ((none, none), none, none, none, none) p0 (by unfold wFuel; simp only; omega)
  obtain ⟨⟨L, i⟩, j', e, pt, dn⟩ := key
  simp only at dn pt
  subst dn
  refine ⟨L, ?_, pt⟩
  simp only [E0] at e0 w0
  simp only [EQ] at e
  simp at e
  simp [F__law_pairs, -dlook, net_begins, e0, -wipeE, w0, e]
end
end DV

set_option autoImplicit false
set_option linter.all false
set_option maxRecDepth 100000
namespace DV
open PySem L2
theorem rch_congr {ss ss' : List Stp} {hs : List Nat} {bs bs' : List Int} (h1 : ∀ s, s ∈ ss → s ∈ ss') (h2 : ∀ b, b ∈ bs → b ∈ bs') {w : List Nat} {p : Int} (r : Rch ss hs bs w p) : Rch ss' hs bs' w p := by
  induction r with
  | base hb => exact .base (h2 _ hb)
  | sil _ hm hz ih => exact .sil ih (h1 _ hm) hz
  | say _ hm hk ih => exact .say ih (h1 _ hm) hk
theorem isCh_none {ss : List Stp} {hs : List Nat} {bs : List Int} {w : List Nat} {ch : List Int} (c : IsCh ss hs bs w ch) (e : ch = []) : ∀ p, ¬ Rch ss hs bs w p := fun p r => by
  have := (c.mem p).mpr r
  rw [e] at this
  cases this
theorem chA_one {ss : List Stp} {hs : List Nat} {bs : List Int} {w : List Nat} {a b : Dat} (h1 : ChA ss hs bs w a) (h2 : ChA ss hs bs w b) : a = b := by
  rcases h1 with ⟨rfl, n1⟩ | ⟨c1, rfl, m1, i1⟩ <;> rcases h2 with ⟨rfl, n2⟩ | ⟨c2, rfl, m2, i2⟩
  · rfl
  · exfalso
    cases c2 with
    | nil => exact m2 rfl
    | cons p l => exact n1 p ((i2.mem p).mp List.mem_cons_self)
  · exfalso
    cases c1 with
    | nil => exact m1 rfl
    | cons p l => exact n2 p ((i1.mem p).mp List.mem_cons_self)
  · rw [isCh_one i1 i2]
section
variable (C : CA) {x : Net} (h : NetOk x)
include h
theorem sp_due (hs v : List Nat) (hv : v.length ≤ 1000) : ∃ d, F__law_due C none [netD x, .str (mk hs), .str (mk v)] = .ok (.d d) none ∧ ChA (srtS x.ss) hs (srtI x.bs) v d := by
  obtain ⟨L, e0, pI⟩ := sp_pairs C h hs v hv
  have sv : v.length ≤ sizeLine := Nat.le_trans hv (by decide)
  have sv2 : (mk v).length ≤ sizeLine := by rw [len_mk]; exact sv
  have sl := len_mk v
  have ll := pI.len h.n8
  have z1 : ∀ s ∈ x.ss, s.2.1.length ≤ 1 := fun s hs => (h.ss s hs).z.2
  let t1 : PEn → Bool := fun e => decide (e.1.2 = v.length)
  let E0 : List (Option Ow) := [some (.d (netD x)), some (.d (.str (mk hs))), some (.d (.str (mk v))), none, none, none]
  obtain ⟨s0, e1, w0⟩ := lcS_map (eg := gTu 2 (gConss (gN 4) (gConss (gN 5) gNils))) (et := eTs (eOp aEq (eVar 5) (eCB aLen (eCons (eVar 2) eNil)))) (ea := eVar 4) (vs := [4, 5]) (s0 := E0) (fun e : PEn => spD e.1) t1 (fun e => .int e.1.1) L
    (fun e _ => ⟨(E0.set 4 (some (.d (.int e.1.1)))).set 5 (some (.d (.int e.1.2))), (E0.set 4 (some (.d (.int e.1.1)))).set 5 (some (.d (.int e.1.2))), by simp [E0, spD], by
      by_cases q : e.1.2 = v.length
      · simp [E0, t1, q, sv, sv2, sl]
      · have : ¬ ((e.1.2 : Int) = (v.length : Int)) := by omega
        simp [E0, t1, q, sv, sv2, sl, this], fun _ => by simp [E0], fun _ => ⟨(E0.set 4 (some (.d (.int e.1.1)))).set 5 (some (.d (.int e.1.2))), by simp [E0], by simp [E0]⟩⟩) E0 [] (by simp [E0]) (by simp; omega)
  simp only [List.nil_append] at e1
  have el : L.map (fun e => spD e.1) = fstD L := rfl
  rw [el] at e1
  obtain ⟨ps, hps⟩ : ∃ ps, ps = (L.filter t1).map (·.1.1) := ⟨_, rfl⟩
  have ep : (L.filter t1).map (fun e => Dat.int e.1.1) = ps.map Dat.int := by rw [hps, List.map_map]; rfl
  rw [ep] at e1
  have hm : ∀ p, p ∈ ps ↔ Rch (srtS x.ss) hs (srtI x.bs) v p := fun p => by
    have r0 : Rch x.ss hs x.bs v p ↔ Rch (srtS x.ss) hs (srtI x.bs) v p := ⟨rch_congr (fun s h => srtS_mem.mpr h) (fun b h => srtI_mem.mpr h), rch_congr (fun s h => srtS_mem.mp h) (fun b h => srtI_mem.mp h)⟩
    rw [← r0]
    have r1 := spR_iff (ss := x.ss) (hs := hs) (bs := x.bs) (v := v) z1 (p := p) (k := v.length)
    rw [List.take_of_length_le (Nat.le_refl _)] at r1
    rw [show Rch x.ss hs x.bs v p ↔ SpR x.ss hs x.bs v (p, v.length) from ⟨fun r => r1.mpr ⟨Nat.le_refl _, r⟩, fun r => (r1.mp r).2⟩, ← pI.all, hps, List.mem_map, List.mem_map]
    constructor
    · rintro ⟨e, he, rfl⟩
      obtain ⟨a1, a2⟩ := List.mem_filter.mp he
      exact ⟨e, a1, by rw [← of_decide_eq_true a2]⟩
    · rintro ⟨e, he, q⟩
      exact ⟨e, List.mem_filter.mpr ⟨he, decide_eq_true (by rw [q])⟩, by rw [q]⟩
  have nd : ps.Nodup := by
    rw [hps]
    have n1 : ((L.filter t1).map (·.1)).Nodup := pI.nd.sublist (List.filter_sublist.map _)
    have h2 : ∀ e ∈ L.filter t1, e.1.2 = v.length := fun e he => of_decide_eq_true (List.mem_filter.mp he).2
    generalize L.filter t1 = l at n1 h2 ⊢
    clear hps ep e1 w0
    induction l with
    | nil => simp
    | cons e l ih =>
      rw [List.map_cons, List.nodup_cons] at n1 ⊢
      refine ⟨fun z => n1.1 ?_, ih n1.2 fun e he => h2 e (List.mem_cons_of_mem _ he)⟩
      obtain ⟨e', he', q⟩ := List.mem_map.mp z
      refine List.mem_map.mpr ⟨e', he', ?_⟩
      exact Prod.ext q ((h2 e' (List.mem_cons_of_mem _ he')).trans (h2 e List.mem_cons_self).symm)
  have ic : IsCh (srtS x.ss) hs (srtI x.bs) v (srtI ps) := ⟨srtI_Asc nd, fun p => srtI_mem.trans (hm p)⟩
  simp only [E0] at e1 w0
  have en := ne_nil (srtI ps)
  by_cases hf : srtI ps = []
  · refine ⟨.non, ?_, .inl ⟨rfl, isCh_none ic hf⟩⟩
    have s0 : shp (.lst []) = true := rfl
    have s1 : (toP (.lst [])).eqv (toP (.lst [])) = true := rfl
    simp [F__law_due, e0, e1, -wipeE, w0, sorted_int, hf, s0, s1]
  · refine ⟨iT (srtI ps), ?_, .inr ⟨srtI ps, rfl, hf, ic⟩⟩
    rw [decide_eq_false hf] at en
    obtain ⟨fD, hD⟩ : ∃ fD, fD = (srtI ps).map Dat.int := ⟨_, rfl⟩
    have so := sorted_int ps
    rw [← hD] at en so
    simp at en
    show _ = FR.ok (.d (.tup ((srtI ps).map Dat.int))) none
    rw [← hD]
    simp [F__law_due, e0, e1, -wipeE, w0, so, en]
end
end DV

set_option autoImplicit false
set_option linter.all false
set_option maxRecDepth 100000
namespace DV
open PySem L2
theorem mk_app (a b : List Nat) : mk a ++ mk b = mk (a ++ b) := by
  apply PySem.W.str_of_cps
  show (a.toArray ++ b.toArray).toList = (a ++ b).toArray.toList
  simp
theorem rch_pth {ss : List Stp} {hs : List Nat} {bs : List Int} (z1 : ∀ s ∈ ss, s.2.1.length ≤ 1) : ∀ (sts : List Stp) {w u : List Nat} {p q : Int}, Rch ss hs bs w p → Pth ss hs p sts u q → Rch ss hs bs (w ++ u) q
  | [], w, u, p, q, r, h => by
    obtain ⟨rfl, rfl⟩ := h
    rw [List.append_nil]
    exact r
  | s :: sts, w, u, p, q, r, h => by
    obtain ⟨rfl, h2, u', rfl, h4⟩ := h
    rw [← List.append_assoc]
    refine rch_pth z1 sts ?_ h4
    unfold hear
    split
    · rename_i hq
      rw [List.append_nil]
      exact .sil r h2 hq
    · rename_i hq
      obtain ⟨k, e, hk⟩ := not_quiet (z1 s h2) hq
      rw [e]
      exact .say r (by rw [← e]; exact h2) hk
section
variable (C : CA) {x : Net} (h : NetOk x)
include h
theorem sp_is_for {hs v : List Nat} (hv : v.length ≤ 1000) {b q : Int} {sts : List Stp} (hb : b ∈ x.bs) (p : Pth (srtS x.ss) hs b sts v q) : F__law_is_for C none [netD x, .str (mk hs), .str (mk v), .int q, runD b sts] = .ok (.d (.bl true)) none := by
  have zl : ∀ s ∈ x.ss, lows s.2.1 := fun s hs => (h.ss s hs).z.1
  have z1 : ∀ s ∈ x.ss, s.2.1.length ≤ 1 := fun s hs => (h.ss s hs).z.2
  have e10 : 10000 ≤ sizeLine := by decide
  let E1 : Int × List Nat → Option Dat → Env := fun t j => [some (.d (netD x)), some (.d (.str (mk hs))), some (.d (.str (mk v))), some (.d (.int q)), some (.d (runD b sts)), some (.d (.int t.1)), some (.d (.str (mk t.2))), j.map Ow.d]
  obtain ⟨j', e, w, pw, ew⟩ := forS_exR (α := Stp) (τ := Int × List Nat) (J := Option Dat) (eg := gN 7) (body := sSeq (sIf (eOr (eTs (eOp aNotIn (eVar 7) (eDGet (eVar 0) (eC (.str kSteps))))) (eTs (eOp aNe (eOp aIx (eVar 7) (eC (.int 0))) (eVar 5))))
      (sRetD (eC (.bl false)))
      sNext)
      (sSeq (sAsg (eOp aIx (eVar 7) (eC (.int 2))) (gN 5))
      (sAsg (eOp aAdd (eVar 6) (eIf (eTs (eOp aIn (eOp aIx (eVar 7) (eC (.int 1))) (eVar 1))) (eOp aIx (eVar 7) (eC (.int 1))) (eC (.str (mk []))))) (gN 6)))) (P := fun as t => ∃ w, Pth (srtS x.ss) hs t.1 as w q ∧ t.2 ++ w = v) E1 (fun t s => (s.2.2, t.2 ++ hear hs s.2.1)) stpD sts (fun t j s as' pt => by
      obtain ⟨here, said⟩ := t
      obtain ⟨w, ⟨e1, e2, u, e3, e4⟩, ev⟩ := pt
      simp only at e1 ev e4
      subst e3
      have hm := srtS_mem.mp e2
      have i1 := in_stp (s := s) (ss := x.ss) zl (zl s hm)
      have i2 := in_heard (hs := hs) (z1 s hm)
      have i3 := hear_in (hs := hs) (z1 s hm)
      have zz := z1 s hm
      have l1 : said.length + s.2.1.length ≤ sizeLine := by
        have := congrArg List.length ev
        simp only [List.length_append] at this
        omega
      have l0 : said.length ≤ sizeLine := by omega
      rw [decide_eq_true hm] at i1
      refine ⟨E1 (here, said) (some (stpD s)), some (stpD s), by rcases j with _ | j <;> simp [E1], .inl ?_, u, e4, by simp only [List.append_assoc]; exact ev⟩
      obtain ⟨a, z, b'⟩ := s
      simp only at e1 i2 i3 l1
      subst e1
      have i4 : aIx (stpD (a, z, b')) (.int 0) = some (.int a) := by simp [stpD]
      have i5 : aIx (stpD (a, z, b')) (.int 1) = some (.str (mk z)) := by simp [stpD]
      have i6 : aIx (stpD (a, z, b')) (.int 2) = some (.int b') := by simp [stpD]
      have n0 : mk said ++ mk [] = mk said := by rw [mk_app, List.append_nil]
      cases hi : inH hs z with
      | true =>
        rw [hi] at i2 i3
        simp [E1, -aIx, i1, i4, i5, i6, -dlook, net_steps, i2, i3, len_mk, l1, mk_app]
      | false =>
        rw [hi] at i2 i3
        simp [E1, -aIx, i1, i4, i5, i6, -dlook, net_steps, i2, i3, len_mk, l0, mk_app]) (b, []) none ⟨v, p, rfl⟩
  obtain ⟨t1, t2⟩ : (sts.foldl (fun (t : Int × List Nat) s => (s.2.2, t.2 ++ hear hs s.2.1)) (b, [])).1 = q ∧ (sts.foldl (fun (t : Int × List Nat) s => (s.2.2, t.2 ++ hear hs s.2.1)) (b, [])).2 = v := by
    obtain ⟨rfl, e2⟩ := pw
    rw [List.append_nil] at ew
    exact ⟨e2, ew⟩
  simp only [E1, t1, t2, runD] at e
  simp [F__law_is_for, runD, -dlook, net_begins, in_int, hb]
  simp at e
  simp [e]
omit h in
theorem shp_vq {v : List Nat} (lv : lows v) (q : Int) : shp (.lst [.str (mk v), .int q]) = true := by
  refine Bool.and_eq_true_iff.mpr ⟨rfl, Bool.and_eq_true_iff.mpr ⟨?_, rfl⟩⟩
  show (PyData.strOk (mk v) && (true && true)) = true
  rw [lows_ok lv]
  rfl
omit h in
theorem eqv_vq (v : List Nat) (q : Int) : (toP (.lst [.str (mk v), .int q])).eqv (toP (.lst [.str (mk v), .int q])) = true := by
  show (((mk v) == (mk v)) && ((q == q) && true)) = true
  simp
omit h in
theorem nonD_non : nonD .non = true := rfl
theorem sp_run_right {hs v : List Nat} (lv : lows v) (hv : v.length ≤ 400) (ho : HsOk (srtS x.ss) hs) {q : Int} (q0 : 0 ≤ q) (q1 : q < x.n) {d : Dat} (hd : ChA (srtS x.ss) hs (srtI x.bs) v d) :
    F__law_run_right C none [macI C x.n (srtS x.ss) (srtI x.bs), netD x, .str (mk hs), .str (mk v), .int q, d] = .ok (.d (.bl true)) none := by
  have m := mOk_net h
  have i0 : aIs d .non = some (.bl (nonD d)) := by cases d <;> rfl
  rcases sp_run_for C m ho v lv hv q q0 q1 with ⟨nr, e⟩ | ⟨b, sts, hb, pt, hl, e⟩
  · rcases hd with ⟨rfl, _⟩ | ⟨ch, rfl, ne, ic⟩
    · simp [F__law_run_right, e, nonD_non]
    · have hq : q ∉ ch := fun z => nr ((ic.mem q).mp z)
      have nn : nonD (iT ch) = false := rfl
      simp [F__law_run_right, e, nonD_non, nn, in_intT, hq]
  · have r : Rch (srtS x.ss) hs (srtI x.bs) v q := rch_pth m.z1 sts (w := []) (.base hb) pt
    rcases hd with ⟨rfl, no⟩ | ⟨ch, rfl, ne, ic⟩
    · exact absurd r (no q)
    · have hq : q ∈ ch := (ic.mem q).mpr r
      have nn : nonD (iT ch) = false := rfl
      have a1 := sp_is_for C h (by omega) (srtI_mem.mp hb) pt
      have a2 := sp_is_run C m hb pt
      have a3 := sp_heard_of C m ho hb pt hl
      have a4 := sp_stop_of C m hb pt hl
      have a5 := shp_vq lv q
      have a6 := eqv_vq v q
      have ls : sts.length < 100000 := by omega
      simp only [runD] at a1 a2 a3 a4
      simp [F__law_run_right, e, nonD_non, nn, in_intT, hq, a1, a2, a3, a4, a5, a6, ls]
end
end DV

set_option autoImplicit false
set_option linter.all false
set_option maxRecDepth 100000
namespace DV
open PySem L2
/-! ### texts of small data -/
structure Smol (k w : Nat) (d : Dat) : Prop where
  pl : plain d = true
  sh : (toP d).showable = true
  cl : (toP d).canLay0 = true
  dp : (toP d).depth ≤ k
  sm : (toP d).intsShort 13 = true
  wt : (toP d).weight ≤ w
structure Smols (k w : Nat) (ds : List Dat) : Prop where
  pl : plains ds = true
  sh : PyData.showableAll (toPs ds) = true
  cl : PyData.canLayAll0 (toPs ds) = true
  dp : PyData.depthAll (toPs ds) ≤ k
  sm : PyData.intsShortAll 13 (toPs ds) = true
  wt : PyData.weightAll (toPs ds) ≤ ds.length * (w + 1)
theorem smols {k w : Nat} : ∀ {ds : List Dat}, (∀ d ∈ ds, Smol k w d) → Smols k w ds
  | [], _ => ⟨rfl, rfl, rfl, Nat.zero_le _, rfl, Nat.zero_le _⟩
  | d :: ds, h => by
    have h1 := h d List.mem_cons_self
    have h2 := smols fun x hx => h x (List.mem_cons_of_mem _ hx)
    refine ⟨?_, ?_, ?_, ?_, ?_, ?_⟩
    · show (plain d && plains ds) = true
      rw [h1.pl, h2.pl]; rfl
    · show ((toP d).showable && PyData.showableAll (toPs ds)) = true
      rw [h1.sh, h2.sh]; rfl
    · show ((toP d).canLay0 && PyData.canLayAll0 (toPs ds)) = true
      rw [h1.cl, h2.cl]; rfl
    · exact Nat.max_le.mpr ⟨h1.dp, h2.dp⟩
    · show ((toP d).intsShort 13 && PyData.intsShortAll 13 (toPs ds)) = true
      rw [h1.sm, h2.sm]; rfl
    · show (toP d).weight + 1 + PyData.weightAll (toPs ds) ≤ (ds.length + 1) * (w + 1)
      have := h1.wt
      have := h2.wt
      rw [Nat.add_mul, Nat.one_mul]
      omega
theorem smol_non : Smol 0 10 .non := ⟨rfl, rfl, rfl, Nat.le_refl _, rfl, Nat.zero_le _⟩
theorem smol_int {i : Int} (h0 : 0 ≤ i) (h : i < 500) : Smol 0 10 (.int i) := by
  have l : i.natAbs.log2 < 9 := log_lt (by omega) (by decide)
  refine ⟨rfl, decide_eq_true (by omega), rfl, Nat.le_refl _, decide_eq_true (PyData.shown_int_le (by omega)), ?_⟩
  show (if i == 0 then 0 else i.natAbs.log2 + 1) ≤ 10
  split <;> omega
theorem smol_str {z : List Nat} (h : lows z) (hl : z.length ≤ 1) : Smol 0 10 (.str (mk z)) := by
  refine ⟨rfl, rfl, lows_ok h, Nat.le_refl _, rfl, ?_⟩
  show z.length ≤ 10
  omega
theorem smol_lst {k w : Nat} {ds : List Dat} (h : ∀ d ∈ ds, Smol k w d) {W : Nat} (hw : ds.length * (w + 1) ≤ W) : Smol (k + 1) W (.lst ds) := by
  have s := smols h
  exact ⟨s.pl, s.sh, s.cl, Nat.succ_le_succ s.dp, s.sm, Nat.le_trans s.wt hw⟩
theorem smol_tup {k w : Nat} {ds : List Dat} (h : ∀ d ∈ ds, Smol k w d) {W : Nat} (hw : ds.length * (w + 1) ≤ W) : Smol (k + 1) W (.tup ds) := by
  have s := smols h
  exact ⟨s.pl, s.sh, s.cl, Nat.succ_le_succ s.dp, s.sm, Nat.le_trans s.wt hw⟩
theorem Smol.mono {k w k' w' : Nat} {d : Dat} (s : Smol k w d) (h1 : k ≤ k') (h2 : w ≤ w') : Smol k' w' d := ⟨s.pl, s.sh, s.cl, Nat.le_trans s.dp h1, s.sm, Nat.le_trans s.wt h2⟩
theorem Smol.rpr {k w : Nat} {d : Dat} (s : Smol k w d) (hk : k ≤ 60) : rpr d = true := by
  unfold DV.rpr
  rw [s.pl, s.sh, PyData.hasDict_of_canLay _ s.cl, decide_eq_true (Nat.le_trans s.dp hk)]
  rfl
theorem Smol.len {k w : Nat} {d : Dat} (s : Smol k w d) : (toP d).shown.length ≤ 15 * w + 13 := by
  have := PyData.shown_le 13 (by decide) (toP d) (PyData.leavesShort_of_canLay0 13 _ s.cl s.sm)
  have := s.wt
  omega
theorem size_16 : 16777216 = sizeLine := by decide
theorem Smol.reprL {k w : Nat} {ds : List Dat} (s : Smol k w (.lst ds)) (hk : k ≤ 60) (hw : w ≤ 100000) : aRepr [.lst ds] = some (.str (toP (.lst ds)).shown) := by
  have := s.len
  have := size_16
  show (if DV.rpr (.lst ds) = true ∧ (toP (.lst ds)).shown.length ≤ sizeLine then some (Dat.str (toP (.lst ds)).shown) else none) = _
  rw [if_pos ⟨s.rpr hk, by omega⟩]
theorem Smol.reprT {k w : Nat} {ds : List Dat} (s : Smol k w (.tup ds)) (hk : k ≤ 60) (hw : w ≤ 100000) : aRepr [.tup ds] = some (.str (toP (.tup ds)).shown) := by
  have := s.len
  have := size_16
  show (if DV.rpr (.tup ds) = true ∧ (toP (.tup ds)).shown.length ≤ sizeLine then some (Dat.str (toP (.tup ds)).shown) else none) = _
  rw [if_pos ⟨s.rpr hk, by omega⟩]
theorem smol_ints {ch : List Int} (h : ∀ p ∈ ch, 0 ≤ p ∧ p < 500) (hl : ch.length ≤ 8) : Smol 1 88 (iT ch) ∧ Smol 1 88 (.lst (ch.map Dat.int)) := by
  have a : ∀ d ∈ ch.map Dat.int, Smol 0 10 d := fun d hd => by
    obtain ⟨p, hp, rfl⟩ := List.mem_map.mp hd
    exact smol_int (h p hp).1 (h p hp).2
  exact ⟨smol_tup a (by simp; omega), smol_lst a (by simp; omega)⟩
theorem smol_stp {n : Int} (hn : n ≤ 8) {s : Stp} (h : StOk n s) : Smol 1 33 (stpD s) := by
  refine smol_tup (k := 0) (w := 10) (fun d hd => ?_) (Nat.le_refl 33)
  simp only [List.mem_cons, List.not_mem_nil, or_false] at hd
  rcases hd with rfl | rfl | rfl
  · exact smol_int h.a.1 (by have := h.a.2; omega)
  · exact smol_str h.z.1 h.z.2
  · exact smol_int h.b.1 (by have := h.b.2; omega)
section
variable (C : CA) {n : Int} {ss : List Stp} {bs : List Int} {hs : List Nat} (m : MOk n ss bs)
include m
theorem smol_ch {w : List Nat} {d : Dat} (h : ChA ss hs bs w d) : Smol 1 88 d := by
  rcases h with ⟨rfl, _⟩ | ⟨ch, rfl, _, ic⟩
  · exact smol_non.mono (by decide) (by decide)
  · exact (smol_ints (fun p hp => by have := isCh_rng m ic p hp; have := m.n8; omega) (len_of m (asc_nodup m ic.asc) (isCh_rng m ic))).1
/-- repr of two alike -/
theorem sp_repr2 {w : List Nat} {d : Dat} (h : ChA ss hs bs w d) : aReprU C [.lst [d, d]] = some (.str (toP (.lst [d, d])).shown) := by
  have s : Smol 2 1000 (.lst [d, d]) := smol_lst (k := 1) (w := 88) (fun e he => by
    simp only [List.mem_cons, List.not_mem_nil, or_false, or_self] at he
    subst he
    exact smol_ch m h) (by show 2 * 89 ≤ 1000; decide)
  exact s.reprL (by decide) (by decide)
theorem sp_repr1 {w : List Nat} {ch : List Int} (ic : IsCh ss hs bs w ch) : aReprU C [iT ch] = some (.str (toP (iT ch)).shown) :=
  (smol_ints (fun p hp => by have := isCh_rng m ic p hp; have := m.n8; omega) (len_of m (asc_nodup m ic.asc) (isCh_rng m ic))).1.reprT (by decide) (by decide)
theorem sp_reprM (hn : 1 ≤ n) : ∃ z, aReprU C [macI C n ss bs] = some (.str z) := by
  have s1 : Smol 2 1360 (.lst (ss.map stpD)) := smol_lst (k := 1) (w := 33) (fun d hd => by
    obtain ⟨s, hs, rfl⟩ := List.mem_map.mp hd
    exact smol_stp m.n8 (m.st s hs)) (by have := m.few; simp; omega)
  have s2 := (smol_ints (fun p hp => by have := m.br p hp; have := m.n8; omega) (len_of m m.bn m.br)).2
  have l1 := s1.len
  have l2 := s2.len
  have r1 := s1.rpr (by decide)
  have r2 := s2.rpr (by decide)
  have n8 := m.n8
  have ln : (txt n).length ≤ 13 := by
    have := PyData.shown_int_le (i := n) (by omega)
    exact this
  have sz := size_16
  obtain ⟨x1, hx1⟩ : ∃ x, x = (toP (.lst (ss.map stpD))).shown := ⟨_, rfl⟩
  obtain ⟨x2, hx2⟩ : ∃ x, x = (toP (.lst (bs.map Dat.int))).shown := ⟨_, rfl⟩
  have f1 : fmtROf (.lst (ss.map stpD)) = some (.str x1) := by
    show (if DV.rpr (.lst (ss.map stpD)) = true ∧ (toP (.lst (ss.map stpD))).shown.length ≤ sizeLine then some (Dat.str (toP (.lst (ss.map stpD))).shown) else none) = _
    rw [if_pos ⟨r1, by omega⟩, hx1]
  have f2 : fmtROf (.lst (bs.map Dat.int)) = some (.str x2) := by
    show (if DV.rpr (.lst (bs.map Dat.int)) = true ∧ (toP (.lst (bs.map Dat.int))).shown.length ≤ sizeLine then some (Dat.str (toP (.lst (bs.map Dat.int))).shown) else none) = _
    rw [if_pos ⟨r2, by omega⟩, hx2]
  have f3 : fmtOf (.int n) = some (txt n) := by
    have : n.natAbs.log2 < 4 := log_lt (by omega) (by decide)
    unfold fmtOf
    simp only
    rw [if_pos (by omega)]
  rw [← hx1] at l1
  rw [← hx2] at l2
  have la : ∀ a b : Str, (a ++ b).length = a.length + b.length := fun a b => Str.length_append a b
  have c1 : (Str.empty ++ ("Machine(" : Str)).length = 8 := rfl
  have c2 : (", " : Str).length = 2 := rfl
  have c3 : (")" : Str).length = 1 := rfl
  have t1 : (Str.empty ++ ("Machine(" : Str)).length ≤ sizeLine := by omega
  have t2 : (Str.empty ++ ("Machine(" : Str) ++ txt n).length ≤ sizeLine := by rw [la]; omega
  have t3 : (Str.empty ++ ("Machine(" : Str) ++ txt n ++ (", " : Str)).length ≤ sizeLine := by rw [la, la]; omega
  have t4 : (Str.empty ++ ("Machine(" : Str) ++ txt n ++ (", " : Str) ++ x1).length ≤ sizeLine := by rw [la, la, la]; omega
  have t5 : (Str.empty ++ ("Machine(" : Str) ++ txt n ++ (", " : Str) ++ x1 ++ (", " : Str)).length ≤ sizeLine := by rw [la, la, la, la]; omega
  have t6 : (Str.empty ++ ("Machine(" : Str) ++ txt n ++ (", " : Str) ++ x1 ++ (", " : Str) ++ x2).length ≤ sizeLine := by rw [la, la, la, la, la]; omega
  have t7 : (Str.empty ++ ("Machine(" : Str) ++ txt n ++ (", " : Str) ++ x1 ++ (", " : Str) ++ x2 ++ (")" : Str)).length ≤ sizeLine := by rw [la, la, la, la, la, la]; omega
  have e : F_Machine___repr__ C none [macI C n ss bs] = .ok (.d (.str (Str.empty ++ ("Machine(" : Str) ++ txt n ++ (", " : Str) ++ x1 ++ (", " : Str) ++ x2 ++ (")" : Str)))) none := by
    simp [F_Machine___repr__, ix_p, ix_s, ix_b, -fmtOf, -fmtROf, f1, f2, f3, t1, t2, t3, t4, t5, t6, t7]
  refine ⟨Str.empty ++ ("Machine(" : Str) ++ txt n ++ (", " : Str) ++ x1 ++ (", " : Str) ++ x2 ++ (")" : Str), ?_⟩
  unfold aReprU
  simp [e]
end
end DV

set_option autoImplicit false
set_option linter.all false
set_option maxRecDepth 100000
namespace DV
open PySem L2
section
variable (C : CA) {x : Net} (h : NetOk x)
include h
omit h in
theorem chA_nonD {ss : List Stp} {hs : List Nat} {bs : List Int} {w : List Nat} {d : Dat} (c : ChA ss hs bs w d) : nonD d = false ↔ ∃ q, Rch ss hs bs w q := by
  rcases c with ⟨rfl, no⟩ | ⟨ch, rfl, ne, ic⟩
  · exact ⟨fun z => (nomatch z), fun ⟨q, r⟩ => absurd r (no q)⟩
  · refine ⟨fun _ => ?_, fun _ => rfl⟩
    cases ch with
    | nil => exact absurd rfl ne
    | cons p l => exact ⟨p, (ic.mem p).mp List.mem_cons_self⟩
theorem sp_all_runs {hs v : List Nat} (lv : lows v) (hv : v.length ≤ 400) (ho : HsOk (srtS x.ss) hs) {d : Dat} (hd : ChA (srtS x.ss) hs (srtI x.bs) v d) (s : Env) (hs' : s = [some (.d (macI C x.n (srtS x.ss) (srtI x.bs))), some (.d (netD x)), some (.d (.str (mk hs))), some (.d (.str (mk v))), some (.d d), some (.d (.lst [d, d])), none, none, none, none]) :
    ∃ s' bs, lcS (gN 9) eYes (eVD (eCall 6 0 (F__law_run_right C) (fun es _ => es) (eCons (eVar 0) (eCons (eVar 1) (eCons (eVar 2) (eCons (eVar 3) (eCons (eVar 9) (eCons (eVar 4) eNil)))))) eNil)) [9] ((List.range x.n.toNat).map fun (i : Nat) => Dat.int (i : Int)) s [] = .ok bs s' ∧ wipeE s' [9] = s ∧ aAll [.lst bs] = some (.bl true) := by
  subst hs'
  let E0 : List (Option Ow) := [some (.d (macI C x.n (srtS x.ss) (srtI x.bs))), some (.d (netD x)), some (.d (.str (mk hs))), some (.d (.str (mk v))), some (.d d), some (.d (.lst [d, d])), none, none, none]
  obtain ⟨s', e, w⟩ := lcS_map (eg := gN 9) (et := eYes) (ea := eVD (eCall 6 0 (F__law_run_right C) (fun es _ => es) (eCons (eVar 0) (eCons (eVar 1) (eCons (eVar 2) (eCons (eVar 3) (eCons (eVar 9) (eCons (eVar 4) eNil)))))) eNil)) (vs := [9]) (s0 := E0 ++ [none]) (fun (i : Nat) => Dat.int (i : Int)) (fun _ => true) (fun _ => .bl true) (List.range x.n.toNat)
    (fun i hi => by
      have hr := List.mem_range.mp hi
      have e := sp_run_right C h lv hv ho (q := i) (by omega) (by omega) hd
      exact ⟨E0 ++ [some (.d (.int i))], E0 ++ [some (.d (.int i))], by simp [E0], by simp, fun z => (nomatch z), fun _ => ⟨E0 ++ [some (.d (.int i))], by simp [E0, e], by simp [E0]⟩⟩) (E0 ++ [none]) [] (by simp [E0]) (by have := h.n8; simp; omega)
  have f1 : (List.range x.n.toNat).filter (fun _ => true) = List.range x.n.toNat := by simp
  rw [f1] at e
  refine ⟨s', _, e, w, ?_⟩
  have b1 := boolsOf_map (fun _ : Nat => true) (List.range x.n.toNat)
  simp [b1]
omit h in
theorem str_five : ("abckz" : Str) = mk [97, 98, 99, 107, 122] := rfl
theorem sp_word_right {hs v : List Nat} (lv : lows v) (hv : v.length ≤ 300) (ho : HsOk (srtS x.ss) hs) : F__law_word_right C none [macI C x.n (srtS x.ss) (srtI x.bs), netD x, .str (mk hs), .str (mk v)] = .ok (.d (.bl true)) none := by
  have m := mOk_net h
  have e10 : 1000 ≤ sizeLine := by decide
  obtain ⟨d, e1, hd⟩ := sp_due C h hs v (by omega)
  obtain ⟨d', e2, hd'⟩ := sp_chart_behind C m ho v lv (by omega)
  have := chA_one hd' hd
  subst this
  have r2 := sp_repr2 C m hd
  obtain ⟨s4, bs4, e4, w4, a4⟩ := sp_all_runs C h lv (by omega) ho hd _ rfl
  have rn : x.n ≤ 100000 ∧ -100000 ≤ x.n := by have := h.n8; have := h.n1; omega
  have i0 : ∀ d : Dat, aIs d .non = some (.bl (nonD d)) := fun d => by cases d <;> rfl
  have i1 : ∀ d : Dat, aIsNot d .non = some (.bl (!nonD d)) := fun d => by cases d <;> rfl
  rcases hd with ⟨rfl, no⟩ | ⟨ch, rfl, ne, ic⟩
  · simp [F__law_word_right, e1, e2, r2, -dlook, net_many, rn, e4, -wipeE, w4, -aAll, a4, nonD_non]
  · have nn : nonD (iT ch) = false := rfl
    -- what is due after one more letter
    obtain ⟨D, hD⟩ : ∃ D : Nat → Dat, ∀ k, F__law_due C none [netD x, .str (mk hs), .str (mk (v ++ [k]))] = .ok (.d (D k)) none ∧ ChA (srtS x.ss) hs (srtI x.bs) (v ++ [k]) (D k) :=
      Classical.axiomOfChoice fun k => sp_due C h hs (v ++ [k]) (by simp; omega)
    have vk : ∀ k, mk v ++ sgn k = mk (v ++ [k]) := fun k => mk_app v [k]
    have vl : (mk v).length + 1 ≤ sizeLine := by rw [len_mk]; omega
    have vl2 : v.length + 1 ≤ sizeLine := by omega
    have sl : ∀ k, (sgn k).length = 1 := fun k => rfl
    let E6 : List (Option Ow) := [some (.d (macI C x.n (srtS x.ss) (srtI x.bs))), some (.d (netD x)), some (.d (.str (mk hs))), some (.d (.str (mk v))), some (.d (iT ch)), some (.d (.lst [iT ch, iT ch])), none]
    obtain ⟨s6, e6, w6⟩ := lcS_map (eg := gN 7) (et := eTs (eOp aIsNot (eVD (eCall 3 0 (F__law_due C) (fun es _ => es) (eCons (eVar 1) (eCons (eVar 2) (eCons (eOp aAdd (eVar 3) (eVar 7)) eNil))) eNil)) (eC .non))) (ea := eVar 7) (vs := [7]) (s0 := E6 ++ [none, none, none]) (fun k : Nat => Dat.str (sgn k)) (fun k => !nonD (D k)) (fun k => .str (sgn k)) hs
      (fun k hk => ⟨E6 ++ [some (.d (.str (sgn k))), none, none], E6 ++ [some (.d (.str (sgn k))), none, none], by simp [E6], by simp [E6, vk, vl, vl2, len_mk, sl, (hD k).1, -aIsNot, i1], fun _ => by simp [E6], fun _ => ⟨E6 ++ [some (.d (.str (sgn k))), none, none], by simp [E6], by simp [E6]⟩⟩) (E6 ++ [none, none, none]) [] (by simp [E6]) (by have := ho.few; simp; omega)
    simp only [List.nil_append] at e6
    have ef : hs.filter (fun k => !nonD (D k)) = nextL (srtS x.ss) hs ch := by
      unfold nextL
      apply List.filter_congr
      intro k hk
      have q1 := mem_nextL ic (k := k)
      unfold nextL at q1
      rw [List.mem_filter] at q1
      have q2 := chA_nonD (hD k).2
      rw [Bool.eq_iff_iff]
      constructor
      · intro z
        exact (q1.mpr (q2.mp (by simpa using z))).2
      · intro z
        have := q2.mpr (q1.mp ⟨hk, z⟩)
        rw [this]; rfl
    rw [ef] at e6
    have nl := List.length_filter_le (canSay (srtS x.ss) ch) hs
    have hf := ho.few
    have e3 : joinOf (.str (mk [])) (.lst ((nextL (srtS x.ss) hs ch).map fun k => Dat.str (sgn k))) = some (.str (mk (nextL (srtS x.ss) hs ch))) := by
      have e4 := strsOf_map ((nextL (srtS x.ss) hs ch).map sgn)
      rw [List.map_map] at e4
      have e4' : strsOf ((nextL (srtS x.ss) hs ch).map fun k => Dat.str (sgn k)) = some ((nextL (srtS x.ss) hs ch).map sgn) := e4
      unfold joinOf
      simp only [e4', Option.bind_some]
      rw [if_pos, join_sgn]
      rw [join_len]
      have : (mk []).length = 0 := rfl
      rw [this]
      unfold nextL
      omega
    have c1 := sp_is_chart C m ho ic ne
    have c2 := sp_next_letters C m ho ic ne
    -- the letters tried
    let E8 : Dat → Option Dat → Option Dat → Env := fun j5 j7 j8 => [some (.d (macI C x.n (srtS x.ss) (srtI x.bs))), some (.d (netD x)), some (.d (.str (mk hs))), some (.d (.str (mk v))), some (.d (iT ch)), some (.d j5), some (.d (.str (mk (nextL (srtS x.ss) hs ch)))), j7.map Ow.d, j8.map Ow.d, none]
    obtain ⟨j', e8, _⟩ := forS_exR (α := Nat) (τ := Unit) (J := Dat × Option Dat × Option Dat) (eg := gN 7) (body := sSeq (sAsg (eIf (eTs (eOp aIn (eVar 7) (eVar 2))) (eVD (eCall 3 0 (F__law_due C) (fun es _ => es) (eCons (eVar 1) (eCons (eVar 2) (eCons (eOp aAdd (eVar 3) (eVar 7)) eNil))) eNil)) (eC .non)) (gN 8))
      (sSeq (sAsg (eFz (eLst (eCons (eVD (eCall 4 0 (F_chart_then C) (fun es _ => es) (eCons (eVar 0) (eCons (eVar 2) (eCons (eVar 4) (eCons (eVar 7) eNil)))) eNil)) (eCons (eVD (eCall 0 4 (F_chart_then C) (gP [3, 2, 1, 0]) eNil (eCons (eVar 7) (eCons (eVar 4) (eCons (eVar 2) (eCons (eVar 0) eNil)))))) eNil)))) (gN 5))
      (sIf (eTs (eOp aNe (eCB (aReprU C) (eCons (eVar 5) eNil)) (eCB (aReprU C) (eCons (eFz (eLst (eCons (eVar 8) (eCons (eVar 8) eNil)))) eNil))))
      (sRetD (eC (.bl false)))
      sNext))) (P := fun as _ => ∀ k ∈ as, 97 ≤ k ∧ k ≤ 122) (fun _ j => E8 j.1 j.2.1 j.2.2) (fun _ _ => ()) (fun k : Nat => Dat.str (sgn k)) [97, 98, 99, 107, 122] (fun t j k as' pt => by
        have hk := pt k List.mem_cons_self
        obtain ⟨dd, f1, f2⟩ := sp_chart_then C m ho ic ne hk
        obtain ⟨j5, j7, j8⟩ := j
        have g0 : ChA (srtS x.ss) hs (srtI x.bs) (v ++ [k]) (if k ∈ hs then D k else .non) := by
          split
          · exact (hD k).2
          · rename_i q
            refine .inl ⟨rfl, fun p r => q ?_⟩
            have := (mem_nextL ic).mpr ⟨p, r⟩
            exact (List.mem_filter.mp this).1
        have g1 := chA_one f2 g0
        have g2 := sp_repr2 C m f2
        refine ⟨E8 j5 (some (.str (sgn k))) j8, (.lst [dd, dd], some (.str (sgn k)), some dd), by rcases j7 with _ | j7 <;> simp [E8], .inl ?_, fun k' hk' => pt k' (List.mem_cons_of_mem _ hk')⟩
        by_cases q : k ∈ hs
        · rw [if_pos q] at g1
          have g3 := (hD k).1
          rw [← g1] at g3
          rcases j8 with _ | j8 <;> simp [E8, in_sgn', q, vk, vl, vl2, len_mk, sl, g3, f1, g2]
        · rw [if_neg q] at g1
          subst g1
          rcases j8 with _ | j8 <;> simp [E8, in_sgn', q, f1, g2]) () (.lst [iT ch, iT ch], none, none) (by decide)
    simp only [E6] at e6 w6
    simp only [E8] at e8
    have it : itemsOf (.str (mk [97, 98, 99, 107, 122])) = some ([97, 98, 99, 107, 122].map fun k => Dat.str (sgn k)) := rfl
    simp at e6 e8
    simp [F__law_word_right, e1, e2, r2, -dlook, net_many, rn, e4, -wipeE, w4, -aAll, a4, nn, e6, w6, e3, c1, c2, str_five, e8]
end
end DV

set_option autoImplicit false
set_option linter.all false
set_option maxRecDepth 100000
namespace DV
open PySem L2
theorem exs_map {α : Type} {f : α → Dat} {Q : α → Prop} : ∀ (ds : List Dat), (∀ d ∈ ds, ∃ c, Q c ∧ d = f c) → ∃ cs : List α, ds = cs.map f ∧ ∀ c ∈ cs, Q c
  | [], _ => ⟨[], rfl, fun _ h => nomatch h⟩
  | d :: ds, h => by
    obtain ⟨c, hc, rfl⟩ := h d List.mem_cons_self
    obtain ⟨cs, e, hq⟩ := exs_map ds fun x hx => h x (List.mem_cons_of_mem _ hx)
    exact ⟨c :: cs, by rw [e]; rfl, fun x hx => by
      rcases List.mem_cons.mp hx with rfl | hx
      · exact hc
      · exact hq x hx⟩
def fixedW : List (List Nat) := [[], [97], [98], [122], [97, 97], [97, 98], [98, 98], [98, 97], [122, 107]]
theorem fixedW_ok : ∀ v ∈ fixedW, (∀ k ∈ v, 97 ≤ k ∧ k ≤ 122) ∧ v.length ≤ 300 := by decide
def someL : List Nat := [97, 98, 99, 122, 97]
theorem someL_ok : ∀ k ∈ someL, 97 ≤ k ∧ k ≤ 122 := by decide
section
variable (C : CA) {x : Net} (h : NetOk x)
include h
theorem sp_words_all {hs : List Nat} (ho : HsOk (srtS x.ss) hs) {ws : List (List Nat)} (hw : ∀ v ∈ ws, lows v ∧ v.length ≤ 300) (wl : ws.length ≤ 100) (pre : Dat) (z : Dat) (j6 : Option Dat) (s : Env) (hs' : s = [some (.d pre), some (.d (netD x)), some (.d (macI C x.n (srtS x.ss) (srtI x.bs))), some (.d (.str (mk hs))), some (.d z), some (.d (.lst (ws.map fun v => Dat.str (mk v)))), j6.map Ow.d, none, none, none, none, none]) :
    ∃ s' bs, lcS (gN 11) eYes (eVD (eCall 4 0 (F__law_word_right C) (fun es _ => es) (eCons (eVar 2) (eCons (eVar 1) (eCons (eVar 3) (eCons (eVar 11) eNil)))) eNil)) [11] (ws.map fun v => Dat.str (mk v)) s [] = .ok bs s' ∧ wipeE s' [11] = s ∧ aAll [.lst bs] = some (.bl true) := by
  subst hs'
  let E0 : List (Option Ow) := [some (.d pre), some (.d (netD x)), some (.d (macI C x.n (srtS x.ss) (srtI x.bs))), some (.d (.str (mk hs))), some (.d z), some (.d (.lst (ws.map fun v => Dat.str (mk v)))), j6.map Ow.d, none, none, none, none]
  obtain ⟨s', e, w⟩ := lcS_map (eg := gN 11) (et := eYes) (ea := eVD (eCall 4 0 (F__law_word_right C) (fun es _ => es) (eCons (eVar 2) (eCons (eVar 1) (eCons (eVar 3) (eCons (eVar 11) eNil)))) eNil)) (vs := [11]) (s0 := E0 ++ [none]) (fun v => Dat.str (mk v)) (fun _ => true) (fun _ => .bl true) ws
    (fun v hv => by
      have e := sp_word_right C h (hw v hv).1 (hw v hv).2 ho
      exact ⟨E0 ++ [some (.d (.str (mk v)))], E0 ++ [some (.d (.str (mk v)))], by simp [E0], by simp, fun z => (nomatch z), fun _ => ⟨E0 ++ [some (.d (.str (mk v)))], by simp [E0, e], by simp [E0]⟩⟩) (E0 ++ [none]) [] (by simp [E0]) (by simp; omega)
  have f1 : ws.filter (fun _ => true) = ws := by simp
  rw [f1] at e
  refine ⟨s', _, e, w, ?_⟩
  have b1 := boolsOf_map (fun _ : List Nat => true) ws
  simp [b1]
omit h in
theorem sp_word_new {c : Cel} (hc : PotOk c) (s : Cel → Env) (hs : ∃ a2 a3 a4 a5 a6 a1 : Option Ow, ∀ c, s c = [some (.c true c), a1, a2, a3, a4, a5, a6, none, none, none, none, none]) :
    ∃ v c', eJoin (eC (.str (mk []))) (eFz (eLc (eRng (eCons (eOp aAdd (eC (.int 3)) (eVD (eCallC 0 2 0 (F__law_draw C) (fun es _ => es) (eCons (eC (.int 2)) eNil) eNil))) eNil)) (gN 10) eYes (eVD (eCallC 0 2 0 (F__law_pick C) (fun es _ => es) (eCons (eFz (eLst (eCons (eC (.str "a")) (eCons (eC (.str "b")) (eCons (eC (.str "c")) (eCons (eC (.str "z")) (eCons (eC (.str "a")) eNil))))))) eNil) eNil)) [10])) (s c) = .ok (.str (mk v)) (s c') ∧ PotOk c' ∧ lows v ∧ v.length ≤ 300 := by
  obtain ⟨a2, a3, a4, a5, a6, a1, es⟩ := hs
  obtain ⟨d, c1, e1, d0, d1, h1⟩ := sp_draw C hc (z := 2) (by decide) (by decide)
  obtain ⟨k, hk⟩ : ∃ k : Nat, 3 + d = k := ⟨(3 + d).toNat, by omega⟩
  have em : [Dat.str "a", .str "b", .str "c", .str "z", .str "a"] = someL.map fun k => Dat.str (sgn k) := rfl
  obtain ⟨bs, ds, s5, e5, ⟨c5, h5, w5⟩, sub, bl, br⟩ := lcS_rel (eg := gN 10) (et := eYes) (ea := eVD (eCallC 0 2 0 (F__law_pick C) (fun es _ => es) (eCons (eFz (eLst (eCons (eC (.str "a")) (eCons (eC (.str "b")) (eCons (eC (.str "c")) (eCons (eC (.str "z")) (eCons (eC (.str "a")) eNil))))))) eNil) eNil)) (vs := [10]) (I := fun t => ∃ c, PotOk c ∧ t = s c) (R := fun (_ : Nat) d => ∃ c ∈ someL, d = .str (sgn c)) (fun i : Nat => Dat.int i) (List.range k) (fun i hi t ht => by
      obtain ⟨c, hc, rfl⟩ := ht
      obtain ⟨y, cy, hy, ey, hcy⟩ := sp_pick C hc (fun k => Dat.str (sgn k)) (l := someL) (by decide) (by decide)
      rw [← em] at ey
      refine ⟨[some (.c true c), a1, a2, a3, a4, a5, a6, none, none, none, some (.d (.int i)), none], true, [some (.c true c), a1, a2, a3, a4, a5, a6, none, none, none, some (.d (.int i)), none], by rw [es]; simp, by simp, fun z => (nomatch z), fun _ => ⟨.str (sgn y), [some (.c true cy), a1, a2, a3, a4, a5, a6, none, none, none, some (.d (.int i)), none], by simp [ey], ⟨y, hy, rfl⟩, cy, hcy, by rw [es]; simp⟩⟩) (s c1) [] ⟨c1, h1, by rw [es]; simp⟩ (by simp; omega)
  simp only [List.nil_append] at e5
  obtain ⟨v, hv, vq⟩ := exs_map (f := fun c => Dat.str (sgn c)) (Q := fun c => c ∈ someL) ds fun d hd => by
    obtain ⟨i, hi⟩ := List.mem_iff_getElem?.mp hd
    have hl := (List.getElem?_eq_some_iff.mp hi).1
    exact br i bs[i] d (List.getElem?_eq_getElem (by omega)) hi
  have vl : v.length ≤ 4 := by
    have e : ds.length = v.length := by rw [hv]; simp
    have := sub.length_le
    simp only [List.length_range] at this
    omega
  refine ⟨v, c5, ?_, h5, fun k hk => someL_ok k (vq k hk), by omega⟩
  have e3 : joinOf (.str (mk [])) (.lst ds) = some (.str (mk v)) := by
    rw [hv]
    have e4 := strsOf_map (v.map sgn)
    rw [List.map_map] at e4
    have e4' : strsOf (v.map fun k => Dat.str (sgn k)) = some (v.map sgn) := e4
    unfold joinOf
    simp only [e4', Option.bind_some]
    rw [if_pos, join_sgn]
    rw [join_len]
    have : (mk []).length = 0 := rfl
    rw [this]
    omega
  have rk : (k : Int) ≤ 100000 ∧ -100000 ≤ (k : Int) := by omega
  simp only [es] at e5 w5 ⊢
  simp [e1, hk, rk, e5, -wipeE, w5, e3]
end
end DV

set_option autoImplicit false
set_option linter.all false
set_option maxRecDepth 100000
namespace DV
open PySem L2
theorem zip_five : zipOf [.str "aabbz", .str "abbak"] = some [.tup [.str "a", .str "a"], .tup [.str "a", .str "b"], .tup [.str "b", .str "b"], .tup [.str "b", .str "a"], .tup [.str "z", .str "k"]] := by
  have h1 : lows [97, 97, 98, 98, 122] := by unfold lows; decide
  have h2 : lows [97, 98, 98, 97, 107] := by unfold lows; decide
  rw [show ("aabbz" : Str) = mk [97, 97, 98, 98, 122] from rfl, show ("abbak" : Str) = mk [97, 98, 98, 97, 107] from rfl]
  unfold zipOf
  simp only [asc_mk h1, asc_mk h2, and_self, if_true]
  rfl
theorem items_abz : itemsOf (.str "abz") = some [.str "a", .str "b", .str "z"] := rfl
theorem sp_right (C : CA) {c : Cel} (hc : PotOk c) : ∃ c', F__law_right C (some c) [] = .ok (.d (.bl true)) (some c') := by
  obtain ⟨x, c1, e1, h, h5, hc1⟩ := sp_net C hc
  have m := mOk_net h
  have e2 := sp_made C h
  obtain ⟨hs, c2, e3, ho, hc2⟩ := sp_ears C h hc1
  obtain ⟨z, e4⟩ := sp_reprM C m h.n1
  obtain ⟨fst, e5, ic⟩ := sp_first_chart C m ho
  obtain ⟨d, e6, hd⟩ := sp_due C h hs [] (by decide)
  have ne : fst ≠ [] := by
    cases hb : srtI x.bs with
    | nil => exact absurd hb m.b0
    | cons b l => exact isCh_ne m ic (.base (p := b) (by rw [hb]; exact List.mem_cons_self))
  have := chA_one hd (.inr ⟨fst, rfl, ne, ic⟩)
  subst this
  have r1 := sp_repr1 C m ic
  have nn : nonD (iT fst) = false := rfl
  -- the words
  let E : Cel → List (List Nat) → Option Dat → Env := fun c ws j6 => [some (.c true c), some (.d (netD x)), some (.d (macI C x.n (srtS x.ss) (srtI x.bs))), some (.d (.str (mk hs))), some (.d (.str z)), some (.c false (.lst (ws.map fun v => Dat.str (mk v)))), j6.map Ow.d, none, none, none, none, none]
  obtain ⟨_, e7, c3, ws, j6, rfl, hc3, hw, wl⟩ := forS_inv (α := Nat) (eg := gN 6) (body := sDrop (eApp 5 (eJoin (eC (.str (mk []))) (eFz (eLc (eRng (eCons (eOp aAdd (eC (.int 3)) (eVD (eCallC 0 2 0 (F__law_draw C) (fun es _ => es) (eCons (eC (.int 2)) eNil) eNil))) eNil)) (gN 10) eYes (eVD (eCallC 0 2 0 (F__law_pick C) (fun es _ => es) (eCons (eFz (eLst (eCons (eC (.str "a")) (eCons (eC (.str "b")) (eCons (eC (.str "c")) (eCons (eC (.str "z")) (eCons (eC (.str "a")) eNil))))))) eNil) eNil)) [10]))))) (P := fun as s => ∃ c ws j6, s = E c ws j6 ∧ PotOk c ∧ (∀ v ∈ ws, lows v ∧ v.length ≤ 300) ∧ ws.length + as.length ≤ 20) (fun i : Nat => Dat.int i) [0, 1, 2, 3] (fun i as' s ps => by
      obtain ⟨c, ws, j6, rfl, hc, hw, wl⟩ := ps
      obtain ⟨v, c', ev, hc', lv, vl⟩ := sp_word_new C hc (fun c => E c ws (some (.int i))) ⟨_, _, _, _, _, _, fun c => rfl⟩
      simp only [List.length_cons] at wl
      have l5 : ws.length < 100000 := by omega
      refine ⟨E c ws (some (.int i)), E c' (ws ++ [v]) (some (.int i)), by rcases j6 with _ | j6 <;> simp [E], .inl ?_, c', ws ++ [v], _, rfl, hc', fun w hw' => ?_, by simp only [List.length_append, List.length_singleton]; omega⟩
      · simp only [E, Option.map_some] at ev ⊢
        simp [-eJoin, ev, l5]
      · rcases List.mem_append.mp hw' with hw' | hw'
        · exact hw w hw'
        · rw [List.mem_singleton] at hw'
          subst hw'
          exact ⟨lv, vl⟩) (E c2 fixedW none) ⟨c2, fixedW, none, rfl, hc2, fun v hv => fixedW_ok v hv, by decide⟩
  simp only [List.length_nil] at wl
  obtain ⟨s8, bs8, e8, w8, a8⟩ := sp_words_all C h ho hw (by omega) c3.dat (.str z) j6 _ rfl
  have lw : ws.length ≤ 20 := by omega
  -- letters of the first words
  let E5 : Cel → List (Option Ow) := fun c => [some (.c true c), some (.d (netD x)), some (.d (macI C x.n (srtS x.ss) (srtI x.bs))), some (.d (.str (mk hs))), some (.d (.str z)), none, none]
  obtain ⟨s1, f1, w1⟩ := lcS_map (eg := gN 7) (et := eYes) (ea := eVar 7) (vs := [7]) (s0 := E5 c2 ++ [none, none, none, none, none]) (fun v => v) (fun _ => true) (fun v => v) [Dat.str "a", Dat.str "b", Dat.str "z"]
    (fun v _ => ⟨E5 c2 ++ [some (.d v), none, none, none, none], E5 c2 ++ [some (.d v), none, none, none, none], by simp [E5], by simp, fun z => (nomatch z), fun _ => ⟨E5 c2 ++ [some (.d v), none, none, none, none], by simp [E5], by simp [E5]⟩⟩) (E5 c2 ++ [none, none, none, none, none]) [] (by simp [E5]) (by decide)
  obtain ⟨s2, f2, w2⟩ := lcS_map (eg := gTu 2 (gConss (gN 8) (gConss (gN 9) gNils))) (et := eYes) (ea := eOp aAdd (eVar 8) (eVar 9)) (vs := [8, 9]) (s0 := E5 c2 ++ [none, none, none, none, none]) (fun p : Nat × Nat => Dat.tup [.str (sgn p.1), .str (sgn p.2)]) (fun _ => true) (fun p => .str (mk [p.1, p.2])) [(97, 97), (97, 98), (98, 98), (98, 97), (122, 107)]
    (fun p _ => ⟨E5 c2 ++ [none, some (.d (.str (sgn p.1))), some (.d (.str (sgn p.2))), none, none], E5 c2 ++ [none, some (.d (.str (sgn p.1))), some (.d (.str (sgn p.2))), none, none], by simp [E5], by simp, fun z => (nomatch z), fun _ => ⟨E5 c2 ++ [none, some (.d (.str (sgn p.1))), some (.d (.str (sgn p.2))), none, none], by
      have e : sgn p.1 ++ sgn p.2 = mk [p.1, p.2] := mk_app [p.1] [p.2]
      have l : (sgn p.1).length + (sgn p.2).length ≤ sizeLine := by show 1 + 1 ≤ sizeLine; decide
      simp [E5, e, l], by simp [E5]⟩⟩) (E5 c2 ++ [none, none, none, none, none]) [] (by simp [E5]) (by decide)
  simp only [List.nil_append] at f1 f2
  have g1 : [Dat.str "a", Dat.str "b", Dat.str "z"].filter (fun _ => true) = [Dat.str "a", Dat.str "b", Dat.str "z"] := by simp
  have ew : fixedW.map (fun v => Dat.str (mk v)) = [.str (mk []), .str "a", .str "b", .str "z", .str (mk [97, 97]), .str (mk [97, 98]), .str (mk [98, 98]), .str (mk [98, 97]), .str (mk [122, 107])] := rfl
  have ez : [((97, 97) : Nat × Nat), (97, 98), (98, 98), (98, 97), (122, 107)].map (fun p => Dat.tup [.str (sgn p.1), .str (sgn p.2)]) = [.tup [.str "a", .str "a"], .tup [.str "a", .str "b"], .tup [.str "b", .str "b"], .tup [.str "b", .str "a"], .tup [.str "z", .str "k"]] := rfl
  rw [ez] at f2
  simp only [E] at e7
  rw [ew] at e7
  simp only [E5] at f1 f2 w1 w2
  simp at f1 f2 e7
  have r4 : List.range 4 = [0, 1, 2, 3] := rfl
  have it_lst : ∀ ds, itemsOf (.lst ds) = some ds := fun _ => rfl
  refine ⟨c3, ?_⟩
  rcases j6 with _ | j6 <;> simp only [Option.map_none, Option.map_some] at e7 e8 w8 <;>
    simp [F__law_right, e1, e2, e3, e4, e5, e6, r1, nn, -itemsOf, items_abz, it_lst, f1, -wipeE, w1, zip_five, f2, w2, r4, e7, -Cel.dat, dat_lst, e8, w8, -aAll, a8]
theorem lawF (C : CA) (ns : List Int) (h : ns.length ≤ 63) : ∃ k, F_law C none [.lst (ns.map Dat.int)] = .ok (.d (.bl true)) k := by
  obtain ⟨k, hk, hk3⟩ : ∃ k : Nat, max 1 (min 3 (ns.length : Int)) = k ∧ k ≤ 3 := ⟨(max 1 (min 3 (ns.length : Int))).toNat, by omega, by omega⟩
  let E0 : List (Option Ow) := [some (.d (.lst (ns.map Dat.int)))]
  obtain ⟨s', e, w⟩ := lcS_map (eg := gN 1) (et := eYes) (ea := eVD (eCallF 1 0 (F__law_right C) (fun es _ => es) (eCall 2 0 (F__law_pot C) (fun es _ => es) (eCons (eVar 0) (eCons (eVar 1) eNil)) eNil) eNil eNil)) (vs := [1]) (s0 := E0 ++ [none]) (fun (i : Nat) => Dat.int (i : Int)) (fun _ => true) (fun _ => .bl true) (List.range k)
    (fun i hi => by
      have hr := List.mem_range.mp hi
      obtain ⟨c, ec, hc⟩ := sp_pot C ns h i (by omega)
      obtain ⟨c', er⟩ := sp_right C hc
      exact ⟨E0 ++ [some (.d (.int i))], E0 ++ [some (.d (.int i))], by simp [E0], by simp, fun z => (nomatch z), fun _ => ⟨E0 ++ [some (.d (.int i))], by simp [E0, ec, er], by simp [E0]⟩⟩) (E0 ++ [none]) [] (by simp [E0]) (by simp; omega)
  have f1 : (List.range k).filter (fun _ => true) = List.range k := by simp
  rw [f1] at e
  have b1 := boolsOf_map (fun _ : Nat => true) (List.range k)
  have rk : (k : Int) ≤ 100000 ∧ -100000 ≤ (k : Int) := by omega
  refine ⟨none, ?_⟩
  simp only [E0, List.nil_append] at e
  simp at e
  simp [F_law, hk, rk, e, b1]
end DV

set_option Elab.async false
set_option autoImplicit false
set_option linter.all false
set_option maxRecDepth 100000
set_option maxHeartbeats 4000000
namespace DV
open PySem PySem.Spec PyProof.Rows L2
theorem facts {P : Program} {w : World} {K : PySem.W.Frag} {h : Heap} {mg : PySem.Str → Option Value} {f : Addr} (X : K.In h) (G : h.Ns mainGlobals mg) (hf : mg ("law" : PySem.Str) = some (.ref f)) (c : He5.SaysA fal fnl K) (e : exB K = true) :
    ∃ fd : FuncData, (∀ (s : Shared) (v : Value), BindsTo s fd ⟨[v], []⟩ [("script", v)]) ∧ (∀ (H : Hp) (a : Addr) (ns : List Int), ns.length ≤ 63 → Only H → SqL K H a (ns.map V.int) → SpF K (F_law (cK K)) [.ref a] H (fun v _ => v = .bl true) E0) ∧ ∀ base : Heap, FnG P w K mg base CX0 10 f fd ["script"] (SpF K (F_law (cK K))) := by
  have T : Tx K mg := ⟨c, e, h, X, G⟩
  have ef := hf.symm.trans (T.g_ "law")
  cases ef
  obtain ⟨fd, F⟩ := T.c.def_ 52 (d := d_law) rfl
  have b := FunD.bindsA (ps := ["script"]) F fun _ _ _ _ _ _ us hl => match us, hl with | [_], _ => rfl
  refine ⟨fd, fun s v => b s [v] rfl, fun H a ns hl _ hS => ?_, fun base => f_law T F⟩
  obtain ⟨k, ek⟩ := lawF (cK K) ns hl
  refine ⟨H, none, [.lst (ns.map Dat.int)], [.ref a], Ex.refl H, rfl, Reps.one ⟨a, ns.map V.int, rfl, hS, Reps.ints ns⟩, (fun b k z => nomatch z), ?_⟩
  show FEnd K E0 H H none (F_law (cK K) none [.lst (ns.map Dat.int)]) _
  rw [ek]
  exact fun v G2 H2 _ _ rr => rr
end DV
open PySem PySem.W PySem.Calls PyProof.Rows
theorem PySem.Challenge.cw_heardquotes_k24_whole_charts_by_all_runs_holds : PySem.Challenge.rw_heardquotes_k24_whole_charts_by_all_runs.Holds := by
  w_on; o_law
  refine HandSHeadRun.head_any (r := OpenLaw.row PySem.Challenge.rw_heardquotes_k24_whole_charts_by_all_runs) (q := view (OpenLaw.row PySem.Challenge.rw_heardquotes_k24_whole_charts_by_all_runs).prog [72]) (H := DV.hk) (ob := DV.ob) (M := 12000) (loose := DV.names) (d := HandSHeadRun.topDef (OpenLaw.row PySem.Challenge.rw_heardquotes_k24_whole_charts_by_all_runs).prog 72) (kwd := []) DV.ob_eq
    (by kernel_rfl) (fun s => by kernel_rfl) DV.runs (by kernel_rfl) (by kernel_rfl) (by kernel_rfl) (by rfl) (by first | assumption | decide +kernel) (by decide +kernel) ⟨rfl, rfl, rfl, rfl, rfl, by decide +kernel⟩ ?hw ?hc
  case hw => w_witness2
  case hc =>
    refine DV.walkG (l := PySem.Challenge.rw_heardquotes_k24_whole_charts_by_all_runs) (n := 63) (k := 10) (x := "script") rfl (by decide) (by kernel_rfl) ⟨⟨rfl, by decide, by decide⟩, rfl⟩ ?F
    intro w mg fa h Y G hmg0
    obtain ⟨K, KX, c, e⟩ := Y
    have hmg : mg ("law" : PySem.Str) = some (.ref fa) := by
      have e : (HandSHeadRun.topDef (OpenLaw.row PySem.Challenge.rw_heardquotes_k24_whole_charts_by_all_runs).prog 72).name = ("law" : PySem.Str) := by kernel_rfl
      rw [← e]
      exact hmg0
    obtain ⟨fd, hb, hp, hF⟩ := DV.facts (P := (PySem.Challenge.rw_heardquotes_k24_whole_charts_by_all_runs).prog) (w := w) KX G hmg c e
    exact ⟨K, fd, _, KX, hb, hp, fun base _ _ => hF base⟩
