import PyProof.Rows.All
import Wide.All
import OpenK.AllK
import Wide.FinOn
import HandS.ForMost
import HandS.TupAny
import HandS.Deep
import HandS.Wide
import KE.KDictKeyed
import KE.KDictWalk
import KE.SortData
import KE.KDictDisplayH
import HandS.Conv
import HandS.Style
import HandS.More
import KE.DataFind
import HandS.Walk
import HandS.Zip
import HandS.DictTup
import KE.GoesMore
import PyProof.Draws
import HandS.DictComp
import HandS.Words
import KE.DataMinMax
import PyProof.ReprRoads
import PyProof.SumWalkG
import PyProof.WalksMore
import KE.KDictCopyH
import HandS.WordsDict
import KE.KDictPairs
import HandS.Ends
import HandS.DictSubView
import PySem.Challenge.RW_ringsandroads_k78_whole_main_means_behin
set_option Elab.async false
set_option linter.all false
set_option maxRecDepth 100000
/-! Rg, part A: values as data, what stands for them on the abstract heap, the ownership invariant J. -/
namespace Rg
open PySem L2

/-- a value: frozen data, a new list or dict that nobody else holds, the list or dict that a slot owns, the pot, the pot's list; a frozen object's own tale (kept on the stack by loops, never a value) -/
inductive Vl where
  | fz (d : PyData) | fr (d : PyData) | sl (i : Nat) | pt | gr | ob (o : HO)
/-- what a slot holds (sc: the script's ints) -/
inductive Sl where
  | fz (d : PyData) | own (d : PyData) | pt | gr | sc (ns : List Int)
structure PotSt where
  great : List Int
  mixed : Int
  turns : Int
structure S where
  env : List (Option Sl)
  pot : Option PotSt

def Vl.isFr : Vl → Bool
  | .fr _ => true
  | _ => false
def Vl.isSl : Vl → Bool
  | .sl _ => true
  | _ => false

mutual
/-- a key: an int, a text, a tuple of such -/
def keyOk : PyData → Bool
  | .int _ | .str _ => true
  | .tuple ds => keyOks ds
  | _ => false
def keyOks : List PyData → Bool
  | [] => true
  | d :: ds => keyOk d && keyOks ds
end
/-- the key of a dict as the kit's flat key -/
def keyK : PyData → Option Key
  | .int i => some (.inl i)
  | .str x => some (.inr x)
  | _ => none
mutual
/-- .. as the kit's nested key -/
def keyN : PyData → Option NestedKey
  | .none => some .none
  | .int i => some (.num i)
  | .bool b => some (.num (if b then 1 else 0))
  | .str x => some (.text x)
  | .tuple ds => (keyNs ds).map .tup
  | _ => none
def keyNs : List PyData → Option (List NestedKey)
  | [] => some []
  | d :: ds => match keyN d, keyNs ds with
    | some k, some ks => some (k :: ks)
    | _, _ => none
end

section
variable (P : Program) (w : World)
/-- a dict whose keys are tuples, known entry by entry -/
def rawN (a : Addr) (xs : List (NestedKey × Addr × Value)) (ep : Nat) (h : Heap) : Prop :=
  (a == sysModules) = false ∧ xs.length ≤ sizeLine ∧ (xs.map (·.1)).Nodup ∧
    ∃ o es, h.get? a = some o ∧ o.ExactDict ∧ o.data = .dict es ep ∧ es.toList = xs.map (entryOfKey (nestedKind P w))
def dN (a : Addr) (xs : List (NestedKey × Addr × Value)) (ep : Nat) : HO := .ext (rawN P w a xs ep)
end

mutual
/-- on the heap F the value v stands for the data d -/
inductive RepD (P : Program) (w : World) (K : PySem.W.Frag) (F : Hp) : PyData → V → Prop
  | non : RepD P w K F .none .non
  | bl (b : Bool) : RepD P w K F (.bool b) (.bl b)
  | int (i : Int) : RepD P w K F (.int i) (.int i)
  | str (x : Str) : RepD P w K F (.str x) (.str x)
  | lst {a : Addr} {vs : List V} {ds : List PyData} : F a = some (.lst vs) → RepAll P w K F ds vs → RepD P w K F (.list ds) (.ref a)
  | tup {a : Addr} {vs : List V} {ds : List PyData} : F a = some (.tup vs) → RepAll P w K F ds vs → RepD P w K F (.tuple ds) (.ref a)
  | dK {a : Addr} {kvs : List (Key × V)} {ps : List (PyData × PyData)} : F a = some (.dK kvs) → RepK P w K F ps kvs → RepD P w K F (.dict ps) (.ref a)
  | dN {a : Addr} {xs : List (NestedKey × Addr × Value)} {ps : List (PyData × PyData)} {n : Nat} : F a = some (dN P w a xs n) → xs ≠ [] → RepN P w K F ps xs → RepD P w K F (.dict ps) (.ref a)
inductive RepAll (P : Program) (w : World) (K : PySem.W.Frag) (F : Hp) : List PyData → List V → Prop
  | nil : RepAll P w K F [] []
  | cons {d : PyData} {v : V} {ds : List PyData} {vs : List V} : RepD P w K F d v → RepAll P w K F ds vs → RepAll P w K F (d :: ds) (v :: vs)
inductive RepK (P : Program) (w : World) (K : PySem.W.Frag) (F : Hp) : List (PyData × PyData) → List (Key × V) → Prop
  | nil : RepK P w K F [] []
  | cons {k d : PyData} {y : Key} {v : V} {ps : List (PyData × PyData)} {kvs : List (Key × V)} : keyK k = some y → RepD P w K F d v → RepK P w K F ps kvs → RepK P w K F ((k, d) :: ps) ((y, v) :: kvs)
inductive RepN (P : Program) (w : World) (K : PySem.W.Frag) (F : Hp) : List (PyData × PyData) → List (NestedKey × Addr × Value) → Prop
  | nil : RepN P w K F [] []
  | cons {k d : PyData} {y : NestedKey} {a : Addr} {u : Value} {v : V} {ps : List (PyData × PyData)} {xs : List (NestedKey × Addr × Value)} :
      keyOk k = true → keyN k = some y → y.depth ≤ 8 → RepD P w K F k (.ref a) → RelV v u → RepD P w K F d v → RepN P w K F ps xs → RepN P w K F ((k, d) :: ps) ((y, a, u) :: xs)
end

abbrev RdSub (F H : Hp) : Prop := Same F H
theorem RdSub.of_same {F H : Hp} (s : Same F H) : RdSub F H := s

section
variable {P : Program} {w : World} {K : PySem.W.Frag} {F H : Hp}
mutual
theorem RepD.mono (s : RdSub F H) : ∀ {d : PyData} {v : V}, RepD P w K F d v → RepD P w K H d v
  | _, _, .non => .non
  | _, _, .bl b => .bl b
  | _, _, .int i => .int i
  | _, _, .str x => .str x
  | _, _, .lst h t => .lst (s _ _ h) (RepAll.mono s t)
  | _, _, .tup h t => .tup (s _ _ h) (RepAll.mono s t)
  | _, _, .dK h t => .dK (s _ _ h) (RepK.mono s t)
  | _, _, .dN h n t => .dN (s _ _ h) n (RepN.mono s t)
theorem RepAll.mono (s : RdSub F H) : ∀ {ds : List PyData} {vs : List V}, RepAll P w K F ds vs → RepAll P w K H ds vs
  | _, _, .nil => .nil
  | _, _, .cons h t => .cons (RepD.mono s h) (RepAll.mono s t)
theorem RepK.mono (s : RdSub F H) : ∀ {ps : List (PyData × PyData)} {kvs : List (Key × V)}, RepK P w K F ps kvs → RepK P w K H ps kvs
  | _, _, .nil => .nil
  | _, _, .cons k h t => .cons k (RepD.mono s h) (RepK.mono s t)
theorem RepN.mono (s : RdSub F H) : ∀ {ps : List (PyData × PyData)} {xs : List (NestedKey × Addr × Value)}, RepN P w K F ps xs → RepN P w K H ps xs
  | _, _, .nil => .nil
  | _, _, .cons o k hd hk hr h t => .cons o k hd (RepD.mono s hk) hr (RepD.mono s h) (RepN.mono s t)
end
theorem RepAll.length : ∀ {ds : List PyData} {vs : List V}, RepAll P w K F ds vs → ds.length = vs.length
  | _, _, .nil => rfl
  | _, _, .cons _ t => congrArg (· + 1) t.length
theorem RepAll.get : ∀ {ds : List PyData} {vs : List V} {i : Nat} {d : PyData}, RepAll P w K F ds vs → ds[i]? = some d → ∃ v, vs[i]? = some v ∧ RepD P w K F d v
  | _, _, _, _, .nil, e => by simp at e
  | _, _, 0, _, .cons h _, e => by simp at e; subst e; exact ⟨_, rfl, h⟩
  | _, _, i + 1, _, .cons _ t, e => by
    obtain ⟨v, h1, h2⟩ := RepAll.get (i := i) t (by simpa using e)
    exact ⟨v, by simpa using h1, h2⟩
theorem RepAll.getV : ∀ {ds : List PyData} {vs : List V} {i : Nat} {v : V}, RepAll P w K F ds vs → vs[i]? = some v → ∃ d, ds[i]? = some d ∧ RepD P w K F d v
  | _, _, _, _, .nil, e => by simp at e
  | _, _, 0, _, .cons h _, e => by simp at e; subst e; exact ⟨_, rfl, h⟩
  | _, _, i + 1, _, .cons _ t, e => by
    obtain ⟨v, h1, h2⟩ := RepAll.getV (i := i) t (by simpa using e)
    exact ⟨v, by simpa using h1, h2⟩
theorem RepAll.append : ∀ {ds es : List PyData} {vs us : List V}, RepAll P w K F ds vs → RepAll P w K F es us → RepAll P w K F (ds ++ es) (vs ++ us)
  | _, _, _, _, .nil, s => s
  | _, _, _, _, .cons h t, s => .cons h (t.append s)
theorem RepAll.one {d : PyData} {v : V} (h : RepD P w K F d v) : RepAll P w K F [d] [v] := .cons h .nil
theorem RepAll.take : ∀ {ds : List PyData} {vs : List V} (n : Nat), RepAll P w K F ds vs → RepAll P w K F (ds.take n) (vs.take n)
  | _, _, 0, _ => .nil
  | _, _, _ + 1, .nil => .nil
  | _, _, n + 1, .cons h t => .cons h (t.take n)
theorem RepAll.drop : ∀ {ds : List PyData} {vs : List V} (n : Nat), RepAll P w K F ds vs → RepAll P w K F (ds.drop n) (vs.drop n)
  | _, _, 0, r => r
  | _, _, _ + 1, .nil => .nil
  | _, _, n + 1, .cons _ t => t.drop n
theorem RepAll.reverse {ds : List PyData} {vs : List V} (h : RepAll P w K F ds vs) : RepAll P w K F ds.reverse vs.reverse := by
  induction ds generalizing vs with
  | nil => cases h; exact .nil
  | cons d ds ih =>
    cases h with
    | cons a t =>
      rw [List.reverse_cons, List.reverse_cons]
      exact (ih t).append (.one a)
theorem RepAll.set {d : PyData} {v : V} (r : RepD P w K F d v) : ∀ {ds : List PyData} {vs : List V} (i : Nat), RepAll P w K F ds vs → RepAll P w K F (ds.set i d) (vs.set i v)
  | _, _, _, .nil => .nil
  | _, _, 0, .cons _ t => .cons r t
  | _, _, i + 1, .cons h t => .cons h (t.set r i)
theorem RepAll.eraseIdx : ∀ {ds : List PyData} {vs : List V} (i : Nat), RepAll P w K F ds vs → RepAll P w K F (ds.eraseIdx i) (vs.eraseIdx i)
  | _, _, _, .nil => .nil
  | _, _, 0, .cons _ t => t
  | _, _, i + 1, .cons h t => .cons h (t.eraseIdx i)
theorem RepAll.rep {ds : List PyData} {vs : List V} (h : RepAll P w K F ds vs) : ∀ k : Nat, RepAll P w K F (List.replicate k ds).flatten (List.replicate k vs).flatten
  | 0 => .nil
  | k + 1 => h.append (h.rep k)
theorem RepK.length : ∀ {ps : List (PyData × PyData)} {kvs : List (Key × V)}, RepK P w K F ps kvs → ps.length = kvs.length
  | _, _, .nil => rfl
  | _, _, .cons _ _ t => congrArg (· + 1) t.length
theorem RepN.length : ∀ {ps : List (PyData × PyData)} {xs : List (NestedKey × Addr × Value)}, RepN P w K F ps xs → ps.length = xs.length
  | _, _, .nil => rfl
  | _, _, .cons _ _ _ _ _ _ t => congrArg (· + 1) t.length
end

/-! ### own cells -/
inductive Cell (P : Program) (w : World) (K : PySem.W.Frag) (F : Hp) : PyData → Addr → HO → Prop
  | lst {a : Addr} {vs : List V} {ds : List PyData} : RepAll P w K F ds vs → Cell P w K F (.list ds) a (.lst vs)
  | dK {a : Addr} {kvs : List (Key × V)} {ps : List (PyData × PyData)} : RepK P w K F ps kvs → Cell P w K F (.dict ps) a (.dK kvs)
  | dN {a : Addr} {xs : List (NestedKey × Addr × Value)} {ps : List (PyData × PyData)} {n : Nat} : xs ≠ [] → RepN P w K F ps xs → Cell P w K F (.dict ps) a (dN P w a xs n)
section
variable {P : Program} {w : World} {K : PySem.W.Frag} {F H : Hp} {d : PyData} {a : Addr} {o : HO}
theorem Cell.mono (s : RdSub F H) (c : Cell P w K F d a o) : Cell P w K H d a o := by
  cases c with
  | lst h => exact .lst (h.mono s)
  | dK h => exact .dK (h.mono s)
  | dN n h => exact .dN n (h.mono s)
theorem Cell.rep (c : Cell P w K F d a o) (h : F a = some o) : RepD P w K F d (.ref a) := by
  cases c with
  | lst r => exact .lst h r
  | dK r => exact .dK h r
  | dN n r => exact .dN h n r
theorem Cell.mut (c : Cell P w K F d a o) : Mut (some o) := by
  cases c <;> exact trivial
end
end Rg
/-! Rg, part B: the invariant J between the pure state and the abstract heap. -/
namespace Rg
open PySem L2

/-- how the pot lies: its state by its two objects -/
structure PotLay where
  pr : PotSt → Addr → Addr → Hp → Prop
  at' : ∀ {st p g H H'}, pr st p g H → H' p = H p → H' g = H g → pr st p g H'
  p_some : ∀ {st p g H}, pr st p g H → ∃ o, H p = some o
  g_some : ∀ {st p g H}, pr st p g H → ∃ o, H g = some o

/-- what is fixed through a def's body: the entry's heap, what was frozen there, the pot's place there -/
structure Bs where
  P : Program
  w : World
  K : PySem.W.Frag
  L : PotLay
  H0 : Hp
  F0 : Hp
  pa0 : Option (Addr × Addr)

abbrev Bs.Rep (B : Bs) (F : Hp) (d : PyData) (v : V) : Prop := RepD B.P B.w B.K F d v
/-- a is none of the pot's two objects -/
def OffPot (pa : Option (Addr × Addr)) (a : Addr) : Prop := ∀ p g, pa = some (p, g) → a ≠ p ∧ a ≠ g
structure Own (B : Bs) (F : Hp) (pa : Option (Addr × Addr)) (H : Hp) (d : PyData) (a : Addr) : Prop where
  f : F a = none
  h0 : B.H0 a = none
  off : OffPot pa a
  cell : ∃ o, H a = some o ∧ Cell B.P B.w B.K F d a o

def ownAt (s : S) (i : Nat) (d : PyData) : Prop := s.env[i]? = some (some (.own d))
def fzAt (s : S) (i : Nat) (d : PyData) : Prop := s.env[i]? = some (some (.fz d))
def ptAt (s : S) (i : Nat) : Prop := s.env[i]? = some (some Sl.pt)
def σAt (σ : St) (i : Nat) (v : V) : Prop := σ[i]? = some (some v)

theorem σAt.inj {σ : St} {i : Nat} {v u : V} (a : σAt σ i v) (b : σAt σ i u) : v = u := Option.some.inj (Option.some.inj (Eq.trans (Eq.symm a) b))
def TOk (B : Bs) (F : Hp) (pa : Option (Addr × Addr)) (s : S) (σ : St) (H : Hp) : Vl × V → Prop
  | (.fz d, v) => B.Rep F d v
  | (.fr d, v) => ∃ a, v = .ref a ∧ Own B F pa H d a
  | (.sl i, v) => (∃ d, ownAt s i d ∨ fzAt s i d) ∧ σAt σ i v
  | (.pt, v) => ∃ p g, pa = some (p, g) ∧ v = .ref p
  | (.gr, v) => ∃ p g, pa = some (p, g) ∧ v = .ref g
  | (.ob o, v) => ∃ a, v = .ref a ∧ F a = some o

def PotOk (B : Bs) (F : Hp) (pa : Option (Addr × Addr)) (st : Option PotSt) (H : Hp) : Prop :=
  match pa, st with
  | none, none => True
  | some (p, g), some st => B.L.pr st p g H ∧ F p = none ∧ F g = none
  | _, _ => False

def grAt (s : S) (i : Nat) : Prop := s.env[i]? = some (some Sl.gr)
def scAt (s : S) (i : Nat) (ns : List Int) : Prop := s.env[i]? = some (some (.sc ns))
/-- slots that hold the pot's list, the script -/
structure Ext (B : Bs) (pa : Option (Addr × Addr)) (s : S) (σ : St) : Prop where
  gr : ∀ i, grAt s i → ∃ p g, pa = some (p, g) ∧ σAt σ i (.ref g)
  sc : ∀ i ns, scAt s i ns → ∃ a, σAt σ i (.ref a) ∧ SqL B.K B.H0 a (ns.map V.int)
def Sl.odd : Sl → Bool
  | .gr => true
  | .sc _ => true
  | _ => false
theorem Ext.of {B : Bs} {pa : Option (Addr × Addr)} {s s' : S} {σ σ' : St} (x : Ext B pa s σ) (h : ∀ (i : Nat) (y : Sl), y.odd = true → s'.env[i]? = some (some y) → s.env[i]? = some (some y) ∧ σ'[i]? = σ[i]?) : Ext B pa s' σ' := by
  refine ⟨fun i e => ?_, fun i ns e => ?_⟩
  · obtain ⟨h1, h2⟩ := h i .gr rfl e
    obtain ⟨p, g, e1, e2⟩ := x.gr i h1
    exact ⟨p, g, e1, h2.trans e2⟩
  · obtain ⟨h1, h2⟩ := h i (.sc ns) rfl e
    obtain ⟨a, e1, e2⟩ := x.sc i ns h1
    exact ⟨a, h2.trans e1, e2⟩
structure J (B : Bs) (F : Hp) (pa : Option (Addr × Addr)) (s : S) (σ : St) (T : List (Vl × V)) (H : Hp) : Prop where
  sub : Same F H
  keep : ∀ a o, B.H0 a = some o → OffPot B.pa0 a → H a = some o
  fnew : ∀ a o, F a = some o → B.F0 a = some o ∨ B.H0 a = none
  f0 : Same B.F0 F
  pa0 : pa = B.pa0 ∨ (B.pa0 = none ∧ ∀ p g, pa = some (p, g) → B.H0 p = none ∧ B.H0 g = none)
  len : s.env.length = σ.length
  fzs : ∀ i d, fzAt s i d → ∃ v, σAt σ i v ∧ B.Rep F d v
  own : ∀ i d, ownAt s i d → ∃ a, σAt σ i (.ref a) ∧ Own B F pa H d a
  pts : ∀ i, ptAt s i → ∃ p g, pa = some (p, g) ∧ σAt σ i (.ref p)
  une : ∀ i j d e, ownAt s i d → ownAt s j e → σ[i]? = σ[j]? → i = j
  tmp : ∀ t ∈ T, TOk B F pa s σ H t
  tne : T.Pairwise fun t u => t.1.isFr = true → u.1.isFr = true → t.2 ≠ u.2
  tse : ∀ t ∈ T, t.1.isFr = true → ∀ i d, ownAt s i d → ¬ σAt σ i t.2
  pot : PotOk B F pa s.pot H
  ext : Ext B pa s σ

/-- what a value stands for now -/
def cont (s : S) : Vl → Option PyData
  | .fz d => some d
  | .fr d => some d
  | .sl i => match s.env[i]? with
    | some (some (.own d)) => some d
    | some (some (.fz d)) => some d
    | _ => none
  | .pt => none
  | .gr => none
  | .ob _ => none

section
variable {B : Bs} {F : Hp} {pa : Option (Addr × Addr)} {s : S} {σ : St} {T : List (Vl × V)} {H : Hp}

theorem J.rd (j : J B F pa s σ T H) : RdSub F H := .of_same j.sub
theorem PotOk.some_of {st : Option PotSt} (h : PotOk B F pa st H) {p g : Addr} (e : pa = some (p, g)) : ∃ z, st = some z ∧ B.L.pr z p g H ∧ F p = none ∧ F g = none := by
  subst e
  cases st with
  | none => exact h.elim
  | some z => exact ⟨z, rfl, h⟩
theorem J.fnone (j : J B F pa s σ T H) {p : Addr} (h : H p = none) : F p = none := j.sub.free h
theorem J.offpot (j : J B F pa s σ T H) {a : Addr} (h : H a = none) : OffPot pa a := fun p g e => by
  obtain ⟨z, _, hp, _, _⟩ := j.pot.some_of e
  obtain ⟨o1, h1⟩ := B.L.p_some hp
  obtain ⟨o2, h2⟩ := B.L.g_some hp
  exact ⟨fun q => (by rw [q, h1] at h; cases h), fun q => (by rw [q, h2] at h; cases h)⟩
theorem J.h0none (j : J B F pa s σ T H) {p : Addr} (h : H p = none) : B.H0 p = none := by
  cases e : B.H0 p with
  | none => rfl
  | some o =>
    have off : OffPot B.pa0 p := by
      rcases j.pa0 with q | ⟨q, _⟩
      · rw [← q]; exact j.offpot h
      · intro a g e; rw [q] at e; cases e
    rw [j.keep p o e off] at h
    cases h
theorem Own.mono {F' H' : Hp} {d : PyData} {a : Addr} (o : Own B F pa H d a) (s : Same F F') (hf : F' a = none) (hh : H' a = H a) : Own B F' pa H' d a := by
  obtain ⟨u, h1, c⟩ := o.cell
  exact ⟨hf, o.h0, o.off, u, hh.trans h1, c.mono (.of_same s)⟩
theorem Own.some {d : PyData} {a : Addr} (o : Own B F pa H d a) : ∃ u, H a = some u := let ⟨u, h, _⟩ := o.cell; ⟨u, h⟩
theorem PotOk.at' {F' H' : Hp} {st : Option PotSt} (h : PotOk B F pa st H) (hf : ∀ p g, pa = some (p, g) → F' p = F p ∧ F' g = F g) (hh : ∀ p g, pa = some (p, g) → H' p = H p ∧ H' g = H g) : PotOk B F' pa st H' := by
  cases pa with
  | none =>
    cases st with
    | none => trivial
    | some st => exact h
  | some z =>
    obtain ⟨p, g⟩ := z
    cases st with
    | none => exact h
    | some st =>
      obtain ⟨h1, h2, h3⟩ := h
      obtain ⟨f1, f2⟩ := hf p g rfl
      obtain ⟨g1, g2⟩ := hh p g rfl
      exact ⟨B.L.at' h1 g1 g2, f1.trans h2, f2.trans h3⟩

/-- F grows and H changes, off all that is owned -/
theorem J.move {F' H' : Hp} (j : J B F pa s σ T H) (sf : Same F F') (sub : Same F' H') (fnew : ∀ a o, F' a = some o → F a = some o ∨ H a = none)
    (hh : ∀ a, (∃ o, H a = some o) → H' a = H a) : J B F' pa s σ T H' := by
  have hown : ∀ {d a}, Own B F pa H d a → Own B F' pa H' d a := fun {d a} o => by
    obtain ⟨u, h1, c⟩ := o.cell
    refine o.mono sf ?_ (hh a ⟨u, h1⟩)
    cases e : F' a with
    | none => rfl
    | some z =>
      rcases fnew a z e with q | q
      · rw [o.f] at q; cases q
      · rw [h1] at q; cases q
  refine ⟨sub, fun a o e off => ?_, fun a o e => ?_, j.f0.trans sf, j.pa0, j.len, fun i d e => ?_, fun i d e => ?_, j.pts, j.une, fun t ht => ?_, j.tne, j.tse, ?_, j.ext⟩
  · have := j.keep a o e off
    rw [hh a ⟨o, this⟩]; exact this
  · rcases fnew a o e with q | q
    · exact j.fnew a o q
    · exact .inr (j.h0none q)
  · obtain ⟨v, h1, h2⟩ := j.fzs i d e
    exact ⟨v, h1, h2.mono (.of_same sf)⟩
  · obtain ⟨a, h1, h2⟩ := j.own i d e
    exact ⟨a, h1, hown h2⟩
  · have h := j.tmp t ht
    obtain ⟨x, v⟩ := t
    cases x with
    | fz d => exact RepD.mono (.of_same sf) h
    | fr d => obtain ⟨a, h1, h2⟩ := h; exact ⟨a, h1, hown h2⟩
    | sl i => exact h
    | pt => exact h
    | gr => exact h
    | ob o => obtain ⟨b, e1, e2⟩ := h; exact ⟨b, e1, sf _ _ e2⟩
  · refine j.pot.at' (fun p g e => ?_) fun p g e => ?_
    · obtain ⟨z, _, hp, h1, h2⟩ := j.pot.some_of e
      obtain ⟨o1, q1⟩ := B.L.p_some hp
      obtain ⟨o2, q2⟩ := B.L.g_some hp
      constructor
      · cases e : F' p with
        | none => exact h1.symm
        | some z =>
          rcases fnew p z e with q | q
          · exact q.symm
          · rw [q1] at q; cases q
      · cases e : F' g with
        | none => exact h2.symm
        | some z =>
          rcases fnew g z e with q | q
          · exact q.symm
          · rw [q2] at q; cases q
    · obtain ⟨z, _, hp, _, _⟩ := j.pot.some_of e
      exact ⟨hh p (B.L.p_some hp), hh g (B.L.g_some hp)⟩

/-- something new that nobody looks at -/
theorem J.junk (j : J B F pa s σ T H) {p : Addr} (h : H p = none) (o : HO) : J B F pa s σ T (upd H p o) :=
  j.move (.refl F) (fun a u e => by rw [upd_ne (ne_of_none (j.sub a u e) h)]; exact j.sub a u e) (fun a u e => .inl e) fun a ⟨u, e⟩ => upd_ne (ne_of_none e h)
/-- a new frozen object -/
theorem J.laid (j : J B F pa s σ T H) {p : Addr} (h : H p = none) (o : HO) : Same F (upd F p o) ∧ J B (upd F p o) pa s σ T (upd H p o) := by
  have sf : Same F (upd F p o) := fun a u e => by rw [upd_ne (ne_of_none (j.sub a u e) h)]; exact e
  refine ⟨sf, j.move sf (fun a u e => ?_) (fun a u e => ?_) fun a ⟨u, e⟩ => upd_ne (ne_of_none e h)⟩
  · by_cases q : a = p
    · subst q; rw [upd_same] at e ⊢; exact e
    · rw [upd_ne q] at e ⊢; exact j.sub a u e
  · by_cases q : a = p
    · subst q; exact .inr h
    · rw [upd_ne q] at e; exact .inl e

theorem J.sub_T (j : J B F pa s σ T H) {T' : List (Vl × V)} (h : T'.Sublist T) : J B F pa s σ T' H :=
  ⟨j.sub, j.keep, j.fnew, j.f0, j.pa0, j.len, j.fzs, j.own, j.pts, j.une, fun t ht => j.tmp t (h.subset ht), j.tne.sublist h, fun t ht => j.tse t (h.subset ht), j.pot, j.ext⟩
theorem J.pop {t : Vl × V} (j : J B F pa s σ (t :: T) H) : J B F pa s σ T H := j.sub_T (List.sublist_cons_self _ _)
theorem J.pop2 {t u : Vl × V} (j : J B F pa s σ (t :: u :: T) H) : J B F pa s σ T H := j.pop.pop
/-- a value that is not new is put on top -/
theorem J.push (j : J B F pa s σ T H) {x : Vl} {v : V} (hx : x.isFr = false) (h : TOk B F pa s σ H (x, v)) : J B F pa s σ ((x, v) :: T) H := by
  refine ⟨j.sub, j.keep, j.fnew, j.f0, j.pa0, j.len, j.fzs, j.own, j.pts, j.une, fun t ht => ?_, List.pairwise_cons.mpr ⟨fun t _ e => ?_, j.tne⟩, fun t ht e => ?_, j.pot, j.ext⟩
  · rcases List.mem_cons.mp ht with rfl | ht
    · exact h
    · exact j.tmp t ht
  · rw [show ((x, v) : Vl × V).1 = x from rfl, hx] at e; cases e
  · rcases List.mem_cons.mp ht with rfl | ht
    · rw [show ((x, v) : Vl × V).1 = x from rfl, hx] at e; cases e
    · exact j.tse t ht e
theorem J.pushFz (j : J B F pa s σ T H) {d : PyData} {v : V} (h : B.Rep F d v) : J B F pa s σ ((.fz d, v) :: T) H := j.push rfl h
/-- a new own object -/
theorem J.made (j : J B F pa s σ T H) {p : Addr} (h : H p = none) {o : HO} {d : PyData} (c : Cell B.P B.w B.K F d p o) : J B F pa s σ ((.fr d, .ref p) :: T) (upd H p o) := by
  have k := j.junk h o
  have hown : Own B F pa (upd H p o) d p := ⟨j.fnone h, j.h0none h, j.offpot h, o, upd_same, c⟩
  have nep : ∀ {e a}, Own B F pa H e a → a ≠ p := fun {e a} q z => by
    obtain ⟨u, hu⟩ := q.some
    rw [z, h] at hu; cases hu
  refine ⟨k.sub, k.keep, k.fnew, k.f0, k.pa0, k.len, k.fzs, k.own, k.pts, k.une, fun t ht => ?_, List.pairwise_cons.mpr ⟨fun t ht _ e q => ?_, k.tne⟩, fun t ht e i d' hi q => ?_, k.pot, k.ext⟩
  · rcases List.mem_cons.mp ht with rfl | ht
    · exact ⟨p, rfl, hown⟩
    · exact k.tmp t ht
  · have ht' := j.tmp t ht
    obtain ⟨x, v⟩ := t
    cases x with
    | fr d' =>
      obtain ⟨a, h1, h2⟩ := ht'
      have q' : V.ref p = v := q
      rw [h1] at q'
      injection q' with q'
      exact nep h2 q'.symm
    | fz _ => cases e
    | sl _ => cases e
    | pt => cases e
    | gr => cases e
    | ob o => cases e
  · rcases List.mem_cons.mp ht with rfl | ht
    · obtain ⟨a, h1, h2⟩ := j.own i d' hi
      have q' := h1.inj q
      injection q' with q'
      exact nep h2 q'
    · exact k.tse t ht e i d' hi q

/-- an own object is frozen: F grows by it. What owned it is told by the caller -/
theorem J.frzF (j : J B F pa s σ T H) {a : Addr} {o : HO} (h : H a = some o) (h0 : B.H0 a = none) (fa : F a = none) : Same F (upd F a o) ∧ Same (upd F a o) H ∧ (∀ b u, upd F a o b = some u → B.F0 b = some u ∨ B.H0 b = none) := by
  refine ⟨fun b u e => ?_, fun b u e => ?_, fun b u e => ?_⟩
  · have : b ≠ a := fun q => by rw [q, fa] at e; cases e
    rw [upd_ne this]; exact e
  · by_cases q : b = a
    · subst q; rw [upd_same] at e; cases e; exact h
    · rw [upd_ne q] at e; exact j.sub b u e
  · by_cases q : b = a
    · subst q; exact .inr h0
    · rw [upd_ne q] at e; exact j.fnew b u e
theorem Own.but {d : PyData} {b a : Addr} {o : HO} (x : Own B F pa H d b) (sf : Same F (upd F a o)) (h : b ≠ a) : Own B (upd F a o) pa H d b :=
  x.mono sf (by rw [upd_ne h]; exact x.f) rfl
/-- the top, a new object, is frozen -/
theorem J.frzTop {d : PyData} {v : V} (j : J B F pa s σ ((.fr d, v) :: T) H) : ∃ F', Same F F' ∧ J B F' pa s σ ((.fz d, v) :: T) H := by
  obtain ⟨a, e, x⟩ := j.tmp _ List.mem_cons_self
  subst e
  obtain ⟨o, h, c⟩ := x.cell
  obtain ⟨sf, sh, fn⟩ := j.frzF h x.h0 x.f
  refine ⟨upd F a o, sf, sh, j.keep, fn, j.f0.trans sf, j.pa0, j.len, fun i d' e => ?_, fun i d' e => ?_, j.pts, j.une, fun t ht => ?_, List.pairwise_cons.mpr ⟨fun t _ e => (nomatch e), (List.pairwise_cons.mp j.tne).2⟩, fun t ht e => ?_, ?_, j.ext⟩
  · obtain ⟨v, h1, h2⟩ := j.fzs i d' e
    exact ⟨v, h1, h2.mono (.of_same sf)⟩
  · obtain ⟨b, h1, h2⟩ := j.own i d' e
    refine ⟨b, h1, h2.but sf fun q => ?_⟩
    subst q
    exact j.tse _ List.mem_cons_self rfl i d' e h1
  · rcases List.mem_cons.mp ht with rfl | ht2
    · exact (c.mono (.of_same sf)).rep upd_same
    · have ht' := j.tmp t (List.mem_cons_of_mem _ ht2)
      obtain ⟨y, v⟩ := t
      cases y with
      | fz d => exact RepD.mono (.of_same sf) ht'
      | fr d' =>
        obtain ⟨b, h1, h2⟩ := ht'
        refine ⟨b, h1, h2.but sf fun q => ?_⟩
        subst q
        exact (List.pairwise_cons.mp j.tne).1 (Vl.fr d', v) ht2 rfl rfl h1.symm
      | sl i => exact ht'
      | pt => exact ht'
      | gr => exact ht'
      | ob o => obtain ⟨b, e1, e2⟩ := ht'; exact ⟨b, e1, sf _ _ e2⟩
  · rcases List.mem_cons.mp ht with rfl | ht
    · cases e
    · exact j.tse t (List.mem_cons_of_mem _ ht) e
  · refine j.pot.at' (fun p g e => ?_) fun _ _ _ => ⟨rfl, rfl⟩
    obtain ⟨n1, n2⟩ := x.off p g e
    exact ⟨upd_ne n1.symm, upd_ne n2.symm⟩
end
end Rg
/-! Rg, part C: slots frozen, changed, stored; what is lent to a callee and taken back. -/
namespace Rg
open PySem L2

def S.put (s : S) (i : Nat) (x : Sl) : S := { s with env := s.env.set i (some x) }
theorem get_set {α : Type} {l : List α} {i j : Nat} {x y : α} (h : (l.set i x)[j]? = some y) : (i = j ∧ x = y ∧ i < l.length) ∨ (i ≠ j ∧ l[j]? = some y) := by
  by_cases e : i = j
  · subst e
    by_cases hl : i < l.length
    · rw [List.getElem?_set_self hl] at h
      exact .inl ⟨rfl, Option.some.inj h, hl⟩
    · rw [List.getElem?_eq_none (by simpa using hl)] at h; cases h
  · rw [List.getElem?_set_ne e] at h
    exact .inr ⟨e, h⟩
theorem σAt.set_ne {σ : St} {i j : Nat} {v : V} {x : Option V} (h : σAt σ j v) (e : i ≠ j) : σAt (σ.set i x) j v := by
  unfold σAt; rw [List.getElem?_set_ne e]; exact h
theorem σAt.set_eq {σ : St} {i : Nat} {v : V} (h : i < σ.length) : σAt (σ.set i (some v)) i v := by
  unfold σAt; rw [List.getElem?_set_self h]

section
variable {B : Bs} {F : Hp} {pa : Option (Addr × Addr)} {s : S} {σ : St} {T : List (Vl × V)} {H : Hp}

theorem ownAt.lt {i : Nat} {d : PyData} (h : ownAt s i d) : i < s.env.length := (List.getElem?_eq_some_iff.mp h).1
theorem put_own {i j : Nat} {x : Sl} {d : PyData} (h : ownAt (s.put i x) j d) : (i = j ∧ x = .own d) ∨ (i ≠ j ∧ ownAt s j d) := by
  rcases get_set h with ⟨a, b, _⟩ | h
  · exact .inl ⟨a, Option.some.inj b⟩
  · exact .inr h
theorem put_fz {i j : Nat} {x : Sl} {d : PyData} (h : fzAt (s.put i x) j d) : (i = j ∧ x = .fz d) ∨ (i ≠ j ∧ fzAt s j d) := by
  rcases get_set h with ⟨a, b, _⟩ | h
  · exact .inl ⟨a, Option.some.inj b⟩
  · exact .inr h
theorem put_pt {i j : Nat} {x : Sl} (h : ptAt (s.put i x) j) : (i = j ∧ x = .pt) ∨ (i ≠ j ∧ ptAt s j) := by
  rcases get_set h with ⟨a, b, _⟩ | h
  · exact .inl ⟨a, Option.some.inj b⟩
  · exact .inr h
theorem put_odd {i j : Nat} {x y : Sl} (h : (s.put i x).env[j]? = some (some y)) : (i = j ∧ x = y) ∨ (i ≠ j ∧ s.env[j]? = some (some y)) := by
  rcases get_set h with ⟨a, b, _⟩ | h
  · exact .inl ⟨a, Option.some.inj b⟩
  · exact .inr h
theorem Ext.put {i : Nat} {x : Sl} (e : Ext B pa s σ) (hx : x.odd = false) : Ext B pa (s.put i x) σ := e.of fun j y hy h => by
  rcases put_odd h with ⟨_, q⟩ | ⟨_, q⟩
  · rw [q, hy] at hx; cases hx
  · exact ⟨q, rfl⟩
theorem put_at {i j : Nat} {x : Sl} {y : Sl} (h : s.env[j]? = some (some y)) (e : i ≠ j) : (s.put i x).env[j]? = some (some y) := by
  show (s.env.set i (some x))[j]? = _
  rw [List.getElem?_set_ne e]; exact h
theorem put_self {i : Nat} {x : Sl} (h : i < s.env.length) : (s.put i x).env[i]? = some (some x) := by
  show (s.env.set i (some x))[i]? = _
  rw [List.getElem?_set_self h]

/-- a slot's own object is frozen -/
theorem J.frzSl (j : J B F pa s σ T H) {i : Nat} {d : PyData} (hi : ownAt s i d) : ∃ F', Same F F' ∧ J B F' pa (s.put i (.fz d)) σ T H := by
  obtain ⟨a, ha, x⟩ := j.own i d hi
  obtain ⟨o, h, c⟩ := x.cell
  obtain ⟨sf, sh, fn⟩ := j.frzF h x.h0 x.f
  refine ⟨upd F a o, sf, sh, j.keep, fn, j.f0.trans sf, j.pa0, (by show (s.env.set i _).length = _; rw [List.length_set]; exact j.len), fun k e q => ?_, fun k e q => ?_, fun k q => ?_, fun k l e e' q q' r => ?_, fun t ht => ?_, j.tne, fun t ht e k d' q => ?_, ?_, j.ext.put rfl⟩
  · rcases put_fz q with ⟨rfl, e1⟩ | ⟨ne, q⟩
    · cases e1
      exact ⟨_, ha, (c.mono (.of_same sf)).rep upd_same⟩
    · obtain ⟨v, h1, h2⟩ := j.fzs k e q
      exact ⟨v, h1, h2.mono (.of_same sf)⟩
  · rcases put_own q with ⟨rfl, e1⟩ | ⟨ne, q⟩
    · cases e1
    · obtain ⟨b, h1, h2⟩ := j.own k e q
      refine ⟨b, h1, h2.but sf fun z => ?_⟩
      subst z
      exact ne (j.une i k d e hi q (Eq.trans ha (Eq.symm h1)))
  · rcases put_pt q with ⟨rfl, e1⟩ | ⟨ne, q⟩
    · cases e1
    · exact j.pts k q
  · rcases put_own q with ⟨rfl, e1⟩ | ⟨ne, q⟩
    · cases e1
    · rcases put_own q' with ⟨rfl, e1⟩ | ⟨ne', q'⟩
      · cases e1
      · exact j.une k l e e' q q' r
  · have ht' := j.tmp t ht
    obtain ⟨y, v⟩ := t
    cases y with
    | fz d => exact RepD.mono (.of_same sf) ht'
    | fr d' =>
      obtain ⟨b, h1, h2⟩ := ht'
      refine ⟨b, h1, h2.but sf fun q => ?_⟩
      subst q
      subst h1
      exact j.tse _ ht rfl i d hi ha
    | sl k =>
      obtain ⟨⟨e, h1⟩, h2⟩ := ht'
      refine ⟨?_, h2⟩
      by_cases ne : i = k
      · subst ne
        exact ⟨d, .inr (put_self hi.lt)⟩
      · exact ⟨e, h1.elim (fun q => .inl (put_at q ne)) fun q => .inr (put_at q ne)⟩
    | pt => exact ht'
    | gr => exact ht'
    | ob o => obtain ⟨b, e1, e2⟩ := ht'; exact ⟨b, e1, sf _ _ e2⟩
  · rcases put_own q with ⟨rfl, e1⟩ | ⟨ne, q⟩
    · cases e1
    · exact j.tse t ht e k d' q
  · refine j.pot.at' (fun p g e => ?_) fun _ _ _ => ⟨rfl, rfl⟩
    obtain ⟨n1, n2⟩ := x.off p g e
    exact ⟨upd_ne n1.symm, upd_ne n2.symm⟩

/-- a slot's own object is changed -/
theorem J.mut (j : J B F pa s σ T H) {i : Nat} {d d' : PyData} {a : Addr} {o' : HO} (hi : ownAt s i d) (ha : σAt σ i (.ref a)) (c' : Cell B.P B.w B.K F d' a o') : J B F pa (s.put i (.own d')) σ T (upd H a o') := by
  obtain ⟨a', ha', x⟩ := j.own i d hi
  have e0 : a' = a := by injection ha'.inj ha
  subst e0
  obtain ⟨o, h, c⟩ := x.cell
  have off : ∀ b u, F b = some u → b ≠ a' := fun b u e q => by rw [q, x.f] at e; cases e
  have other : ∀ {e b}, Own B F pa H e b → b ≠ a' → Own B F pa (upd H a' o') e b := fun y ne => y.mono (.refl F) y.f (upd_ne ne)
  refine ⟨fun b u e => ?_, fun b u e q => ?_, j.fnew, j.f0, j.pa0, (by show (s.env.set i _).length = _; rw [List.length_set]; exact j.len), fun k e q => ?_, fun k e q => ?_, fun k q => ?_, fun k l e e' q q' r => ?_, fun t ht => ?_, j.tne, fun t ht e k d2 q => ?_, ?_, j.ext.put rfl⟩
  · rw [upd_ne (off b u e)]; exact j.sub b u e
  · have : b ≠ a' := fun z => by rw [z, x.h0] at e; cases e
    rw [upd_ne this]; exact j.keep b u e q
  · rcases put_fz q with ⟨rfl, e1⟩ | ⟨ne, q⟩
    · cases e1
    · exact j.fzs k e q
  · rcases put_own q with ⟨rfl, e1⟩ | ⟨ne, q⟩
    · cases e1
      exact ⟨a', ha, x.f, x.h0, x.off, o', upd_same, c'⟩
    · obtain ⟨b, h1, h2⟩ := j.own k e q
      exact ⟨b, h1, other h2 fun z => ne (j.une i k d e hi q (Eq.trans ha (z ▸ Eq.symm h1)))⟩
  · rcases put_pt q with ⟨rfl, e1⟩ | ⟨ne, q⟩
    · cases e1
    · exact j.pts k q
  · have g : ∀ {k e}, ownAt (s.put i (.own d')) k e → ∃ e', ownAt s k e' := fun {k e} q => by
      rcases put_own q with ⟨rfl, _⟩ | ⟨_, q⟩
      · exact ⟨d, hi⟩
      · exact ⟨e, q⟩
    obtain ⟨e1, q1⟩ := g q
    obtain ⟨e2, q2⟩ := g q'
    exact j.une k l e1 e2 q1 q2 r
  · have ht' := j.tmp t ht
    obtain ⟨y, v⟩ := t
    cases y with
    | fz d => exact ht'
    | fr d2 =>
      obtain ⟨b, h1, h2⟩ := ht'
      refine ⟨b, h1, other h2 fun q => ?_⟩
      subst q
      subst h1
      exact j.tse _ ht rfl i d hi ha
    | sl k =>
      obtain ⟨⟨e, h1⟩, h2⟩ := ht'
      refine ⟨?_, h2⟩
      by_cases ne : i = k
      · subst ne
        exact ⟨d', .inl (put_self hi.lt)⟩
      · exact ⟨e, h1.elim (fun q => .inl (put_at q ne)) fun q => .inr (put_at q ne)⟩
    | pt => exact ht'
    | gr => exact ht'
    | ob o => exact ht'
  · rcases put_own q with ⟨rfl, e1⟩ | ⟨ne, q⟩
    · exact j.tse t ht e i d hi
    · exact j.tse t ht e k d2 q
  · refine j.pot.at' (fun _ _ _ => ⟨rfl, rfl⟩) fun p g e => ?_
    obtain ⟨n1, n2⟩ := x.off p g e
    exact ⟨upd_ne n1.symm, upd_ne n2.symm⟩

/-- what a slot is when a value is stored -/
def slOf : Vl → Option Sl
  | .fz d => some (.fz d)
  | .fr d => some (.own d)
  | .pt => some .pt
  | .gr => some .gr
  | .ob _ => none
  | .sl _ => none
theorem J.store {x : Vl} {y : Sl} {v : V} {i : Nat} (j : J B F pa s σ ((x, v) :: T) H) (hy : slOf x = some y) (hT : ∀ t ∈ T, t.1 ≠ .sl i) (hi : i < σ.length) : J B F pa (s.put i y) (σ.set i (some v)) T H := by
  have tx := j.tmp _ List.mem_cons_self
  have hl : i < s.env.length := by rw [j.len]; exact hi
  refine ⟨j.sub, j.keep, j.fnew, j.f0, j.pa0, (by show (s.env.set i _).length = _; rw [List.length_set, List.length_set]; exact j.len), fun k e q => ?_, fun k e q => ?_, fun k q => ?_, fun k l e e' q q' r => ?_, fun t ht => ?_, (List.pairwise_cons.mp j.tne).2, fun t ht e k d2 q => ?_, j.pot, ?_⟩
  · rcases put_fz q with ⟨rfl, e1⟩ | ⟨ne, q⟩
    · subst e1
      cases x with
      | fz d => cases hy; exact ⟨v, σAt.set_eq hi, tx⟩
      | fr d => cases hy
      | pt => cases hy
      | gr => cases hy
      | ob o => cases hy
      | sl _ => cases hy
    · obtain ⟨u, h1, h2⟩ := j.fzs k e q
      exact ⟨u, h1.set_ne ne, h2⟩
  · rcases put_own q with ⟨rfl, e1⟩ | ⟨ne, q⟩
    · subst e1
      cases x with
      | fr d =>
        cases hy
        obtain ⟨a, h1, h2⟩ := tx
        subst h1
        exact ⟨a, σAt.set_eq hi, h2⟩
      | fz d => cases hy
      | pt => cases hy
      | gr => cases hy
      | ob o => cases hy
      | sl _ => cases hy
    · obtain ⟨u, h1, h2⟩ := j.own k e q
      exact ⟨u, h1.set_ne ne, h2⟩
  · rcases put_pt q with ⟨rfl, e1⟩ | ⟨ne, q⟩
    · subst e1
      cases x with
      | gr => cases hy
      | ob o => cases hy
      | pt =>
        obtain ⟨p, g, h1, h2⟩ := tx
        subst h2
        exact ⟨p, g, h1, σAt.set_eq hi⟩
      | fr d => cases hy
      | fz d => cases hy
      | sl _ => cases hy
    · obtain ⟨p, g, h1, h2⟩ := j.pts k q
      exact ⟨p, g, h1, h2.set_ne ne⟩
  · have key : ∀ {k e}, ownAt (s.put i y) i e → i ≠ k → ∀ {e'}, ownAt s k e' → σ[k]? ≠ some (some v) := fun {kk ee} qq ne {ee'} qq' zz => by
      rcases put_own qq with ⟨_, e1⟩ | ⟨ne2, _⟩
      · subst e1
        cases x with
        | fr d => exact j.tse _ List.mem_cons_self rfl kk ee' qq' zz
        | fz d => cases hy
        | pt => cases hy
        | gr => cases hy
        | ob o => cases hy
        | sl _ => cases hy
      · exact ne2 rfl
    by_cases hk : i = k
    · by_cases hl2 : i = l
      · exact hk.symm.trans hl2
      · subst hk
        rw [List.getElem?_set_self hi, List.getElem?_set_ne hl2] at r
        rcases put_own q' with ⟨z, _⟩ | ⟨_, q'⟩
        · exact absurd z hl2
        · exact absurd r.symm (key q hl2 q')
    · by_cases hl2 : i = l
      · subst hl2
        rw [List.getElem?_set_self hi, List.getElem?_set_ne hk] at r
        rcases put_own q with ⟨z, _⟩ | ⟨_, q⟩
        · exact absurd z hk
        · exact absurd r (key q' hk q)
      · rw [List.getElem?_set_ne hk, List.getElem?_set_ne hl2] at r
        rcases put_own q with ⟨z, _⟩ | ⟨_, q⟩
        · exact absurd z hk
        · rcases put_own q' with ⟨z, _⟩ | ⟨_, q'⟩
          · exact absurd z hl2
          · exact j.une k l e e' q q' r
  · have ht' := j.tmp t (List.mem_cons_of_mem _ ht)
    have hs := hT t ht
    obtain ⟨y, u⟩ := t
    cases y with
    | fz d => exact ht'
    | fr d => exact ht'
    | pt => exact ht'
    | gr => exact ht'
    | ob o => exact ht'
    | sl k =>
      have ne : i ≠ k := fun z => hs (by rw [z])
      obtain ⟨⟨e, h1⟩, h2⟩ := ht'
      exact ⟨⟨e, h1.elim (fun q => .inl (put_at q ne)) fun q => .inr (put_at q ne)⟩, h2.set_ne ne⟩
  · rcases put_own q with ⟨rfl, e1⟩ | ⟨ne, q⟩
    · subst e1
      cases x with
      | fr d =>
        intro z
        have z' := z.inj (σAt.set_eq hi)
        exact (List.pairwise_cons.mp j.tne).1 t ht rfl e z'.symm
      | fz d => cases hy
      | pt => cases hy
      | gr => cases hy
      | ob o => cases hy
      | sl _ => cases hy
    · intro z
      refine j.tse t (List.mem_cons_of_mem _ ht) e k d2 q ?_
      unfold σAt at z ⊢
      rwa [List.getElem?_set_ne ne] at z
  · refine ⟨fun k e => ?_, fun k ns e => ?_⟩
    · rcases put_odd e with ⟨rfl, e1⟩ | ⟨ne, q⟩
      · subst e1
        cases x with
        | gr =>
          obtain ⟨p, g, h1, h2⟩ := tx
          subst h2
          exact ⟨p, g, h1, σAt.set_eq hi⟩
        | fz d => cases hy
        | fr d => cases hy
        | pt => cases hy
        | ob o => cases hy
        | sl _ => cases hy
      · obtain ⟨p, g, h1, h2⟩ := j.ext.gr k q
        exact ⟨p, g, h1, h2.set_ne ne⟩
    · rcases put_odd e with ⟨rfl, e1⟩ | ⟨ne, q⟩
      · subst e1
        cases x <;> cases hy
      · obtain ⟨a, h1, h2⟩ := j.ext.sc k ns q
        exact ⟨a, h1.set_ne ne, h2⟩

/-- a value's content on the heap -/
theorem J.rep (j : J B F pa s σ T H) {x : Vl} {v : V} {d : PyData} (h : (x, v) ∈ T) (e : cont s x = some d) : B.Rep H d v := by
  have ht := j.tmp _ h
  cases x with
  | fz d' => cases e; exact RepD.mono j.rd ht
  | fr d' =>
    cases e
    obtain ⟨a, h1, h2⟩ := ht
    subst h1
    obtain ⟨o, h3, c⟩ := h2.cell
    exact (c.mono j.rd).rep h3
  | sl i =>
    obtain ⟨⟨d', h1⟩, h2⟩ := ht
    rcases h1 with h1 | h1
    · have h1' := h1
      unfold ownAt at h1'
      simp only [cont, h1'] at e
      cases e
      obtain ⟨a, h3, h4⟩ := j.own i d h1
      obtain ⟨o, h5, c⟩ := h4.cell
      rw [h2.inj h3]
      exact (c.mono j.rd).rep h5
    · have h1' := h1
      unfold fzAt at h1'
      simp only [cont, h1'] at e
      cases e
      obtain ⟨u, h3, h4⟩ := j.fzs i d h1
      rw [h2.inj h3]
      exact h4.mono j.rd
  | pt => cases e
  | gr => cases e
  | ob o => cases e

/-- the value is frozen -/
def frz (s : S) : Vl → Option (PyData × S)
  | .fz d => some (d, s)
  | .fr d => some (d, s)
  | .sl i => match s.env[i]? with
    | some (some (.own d)) => some (d, s.put i (.fz d))
    | some (some (.fz d)) => some (d, s)
    | _ => none
  | .pt => none
  | .gr => none
  | .ob _ => none
theorem J.frz {x : Vl} {v : V} {d : PyData} {s' : S} (j : J B F pa s σ ((x, v) :: T) H) (h : frz s x = some (d, s')) : ∃ F', Same F F' ∧ J B F' pa s' σ ((.fz d, v) :: T) H := by
  cases x with
  | fz d' => cases h; exact ⟨F, .refl F, j⟩
  | fr d' => cases h; exact j.frzTop
  | pt => cases h
  | gr => cases h
  | ob o => cases h
  | sl i =>
    have tx := j.tmp _ List.mem_cons_self
    obtain ⟨⟨d', h1⟩, h2⟩ := tx
    rcases h1 with h1 | h1
    · have h1' := h1
      unfold ownAt at h1'
      simp only [Rg.frz, h1'] at h
      cases h
      obtain ⟨F', sf, j'⟩ := j.frzSl h1
      obtain ⟨u, h3, h4⟩ := j'.fzs i d (put_self h1.lt)
      rw [h2.inj h3]
      exact ⟨F', sf, j'.pop.pushFz h4⟩
    · have h1' := h1
      unfold fzAt at h1'
      simp only [Rg.frz, h1'] at h
      cases h
      obtain ⟨u, h3, h4⟩ := j.fzs i d h1
      rw [h2.inj h3]
      exact ⟨F, .refl F, j.pop.pushFz h4⟩
end
end Rg
/-! Rg, part D: what is lent to a callee (or a comprehension), and taken back. -/
namespace Rg
open PySem L2

/-- the slot i of I owns the object at a -/
def lentAt (s : S) (σ : St) (I : Nat → Bool) (a : Addr) : Prop := ∃ i d, I i = true ∧ ownAt s i d ∧ σAt σ i (.ref a)
open Classical in
noncomputable def lent (s : S) (σ : St) (F H : Hp) (I : Nat → Bool) : Hp := fun a => match F a with
  | some o => some o
  | none => if lentAt s σ I a then H a else none

def frzSlot (I : Nat → Bool) (i : Nat) : Option Sl → Option Sl
  | some (.own d) => if I i then some (.fz d) else some (.own d)
  | x => x
def S.frzI (s : S) (I : Nat → Bool) : S := { s with env := s.env.mapIdx (frzSlot I) }

mutual
/-- no list or dict within -/
def clean : PyData → Bool
  | .list _ => false
  | .dict _ => false
  | .tuple ds => cleanAll ds
  | _ => true
def cleanAll : List PyData → Bool
  | [] => true
  | d :: ds => clean d && cleanAll ds
end
/-- no list or dict within the items -/
def cleanIn : PyData → Bool
  | .list ds => cleanAll ds
  | .dict ps => cleanAll (ps.map (·.1)) && cleanAll (ps.map (·.2))
  | d => clean d

section
variable {P : Program} {w : World} {K : PySem.W.Frag} {F G : Hp}
mutual
theorem RepD.tups (h : ∀ a xs, F a = some (.tup xs) → G a = some (.tup xs)) : ∀ {d : PyData} {v : V}, clean d = true → RepD P w K F d v → RepD P w K G d v
  | _, _, _, .non => .non
  | _, _, _, .bl b => .bl b
  | _, _, _, .int b => .int b
  | _, _, _, .str b => .str b
  | _, _, c, .lst _ _ => by simp [clean] at c
  | _, _, c, .dK _ _ => by simp [clean] at c
  | _, _, c, .dN _ _ _ => by simp [clean] at c
  | _, _, c, .tup q t => .tup (h _ _ q) (RepAll.tups h (by simpa [clean] using c) t)
theorem RepAll.tups (h : ∀ a xs, F a = some (.tup xs) → G a = some (.tup xs)) : ∀ {ds : List PyData} {vs : List V}, cleanAll ds = true → RepAll P w K F ds vs → RepAll P w K G ds vs
  | _, _, _, .nil => .nil
  | _, _, c, .cons q t => by
    simp only [cleanAll, Bool.and_eq_true] at c
    exact .cons (RepD.tups h c.1 q) (RepAll.tups h c.2 t)
end
theorem RepK.tups (h : ∀ a xs, F a = some (.tup xs) → G a = some (.tup xs)) : ∀ {ps : List (PyData × PyData)} {kvs : List (Key × V)}, cleanAll (ps.map (·.2)) = true → RepK P w K F ps kvs → RepK P w K G ps kvs
  | _, _, _, .nil => .nil
  | _, _, c, .cons k q t => by
    simp only [List.map_cons, cleanAll, Bool.and_eq_true] at c
    exact .cons k (q.tups h c.1) (t.tups h c.2)
theorem RepN.tups (h : ∀ a xs, F a = some (.tup xs) → G a = some (.tup xs)) : ∀ {ps : List (PyData × PyData)} {xs : List (NestedKey × Addr × Value)}, cleanAll (ps.map (·.1)) = true → cleanAll (ps.map (·.2)) = true → RepN P w K F ps xs → RepN P w K G ps xs
  | _, _, _, _, .nil => .nil
  | _, _, b, c, .cons o k hd hk hr q t => by
    simp only [List.map_cons, cleanAll, Bool.and_eq_true] at b c
    exact .cons o k hd (hk.tups h b.1) hr (q.tups h c.1) (t.tups h b.2 c.2)
theorem Cell.tups (h : ∀ a xs, F a = some (.tup xs) → G a = some (.tup xs)) {d : PyData} {a : Addr} {o : HO} (c : cleanIn d = true) (x : Cell P w K F d a o) : Cell P w K G d a o := by
  cases x with
  | lst r => exact .lst (r.tups h c)
  | dK r => simp only [cleanIn, Bool.and_eq_true] at c; exact .dK (r.tups h c.2)
  | dN n r => simp only [cleanIn, Bool.and_eq_true] at c; exact .dN n (r.tups h c.1 c.2)
end

section
variable {B : Bs} {F : Hp} {pa : Option (Addr × Addr)} {s : S} {σ : St} {T : List (Vl × V)} {H : Hp} {I : Nat → Bool}
theorem lent_F {a : Addr} {o : HO} (h : F a = some o) : lent s σ F H I a = some o := by unfold lent; rw [h]
theorem lent_own {a : Addr} (h : F a = none) (l : lentAt s σ I a) : lent s σ F H I a = H a := by unfold lent; rw [h]; exact if_pos l
open Classical in
theorem lent_cases {a : Addr} {o : HO} (h : lent s σ F H I a = some o) : F a = some o ∨ (F a = none ∧ lentAt s σ I a ∧ H a = some o) := by
  unfold lent at h
  cases e : F a with
  | some u => rw [e] at h; exact .inl h
  | none =>
    rw [e] at h
    by_cases l : lentAt s σ I a
    · rw [show (if lentAt s σ I a then H a else none) = H a from if_pos l] at h
      exact .inr ⟨rfl, l, h⟩
    · rw [show (if lentAt s σ I a then H a else none) = none from if_neg l] at h
      cases h
theorem J.lentF (j : J B F pa s σ T H) : Same F (lent s σ F H I) := fun a o h => lent_F h
theorem J.lentH (j : J B F pa s σ T H) : Same (lent s σ F H I) H := fun a o h => (lent_cases h).elim (j.sub a o) fun q => q.2.2
theorem J.lentAt_own (j : J B F pa s σ T H) {a : Addr} (l : lentAt s σ I a) : ∃ i d, I i = true ∧ ownAt s i d ∧ σAt σ i (.ref a) ∧ Own B F pa H d a := by
  obtain ⟨i, d, h1, h2, h3⟩ := l
  obtain ⟨b, h4, h5⟩ := j.own i d h2
  have e : b = a := by injection h4.inj h3
  subst e
  exact ⟨i, d, h1, h2, h3, h5⟩
theorem J.lentRep (j : J B F pa s σ T H) {i : Nat} {d : PyData} {v : V} (hI : I i = true) (h : ownAt s i d) (hv : σAt σ i v) : B.Rep (lent s σ F H I) d v := by
  obtain ⟨a, h1, x⟩ := j.own i d h
  rw [hv.inj h1]
  obtain ⟨o, h2, c⟩ := x.cell
  exact (c.mono (.of_same j.lentF)).rep (by rw [lent_own x.f ⟨i, d, hI, h, h1⟩]; exact h2)
/-- what a value of the stack stands for, lent -/
theorem J.lentVal (j : J B F pa s σ T H) {x : Vl} {v : V} {d : PyData} (h : TOk B F pa s σ H (x, v)) (hfr : x.isFr = false) (hI : ∀ i, x = .sl i → I i = true) (e : cont s x = some d) : B.Rep (lent s σ F H I) d v := by
  cases x with
  | fz d' => cases e; exact RepD.mono (.of_same j.lentF) h
  | fr d' => cases hfr
  | pt => cases e
  | gr => cases e
  | ob o => cases e
  | sl i =>
    obtain ⟨⟨d', h1⟩, h2⟩ := h
    rcases h1 with h1 | h1
    · have h1' := h1
      unfold ownAt at h1'
      simp only [cont, h1'] at e
      cases e
      exact j.lentRep (hI i rfl) h1 h2
    · have h1' := h1
      unfold fzAt at h1'
      simp only [cont, h1'] at e
      cases e
      obtain ⟨u, h3, h4⟩ := j.fzs i d h1
      rw [h2.inj h3]
      exact RepD.mono (.of_same j.lentF) h4
theorem J.offH0 (j : J B F pa s σ T H) {a : Addr} {o : HO} (h : B.H0 a = some o) (off : OffPot B.pa0 a) : OffPot pa a := by
  rcases j.pa0 with e | ⟨_, e⟩
  · rw [e]; exact off
  · intro p g q
    obtain ⟨h1, h2⟩ := e p g q
    exact ⟨fun z => (by rw [z, h1] at h; cases h), fun z => (by rw [z, h2] at h; cases h)⟩
theorem frzI_at {i : Nat} {y : Sl} (h : (s.frzI I).env[i]? = some (some y)) : ∃ x, s.env[i]? = some (some x) ∧ ((∃ d, x = .own d ∧ I i = true ∧ y = .fz d) ∨ ((∀ d, x = .own d → I i = false) ∧ y = x)) := by
  have h' : (s.env.mapIdx (frzSlot I))[i]? = some (some y) := h
  rw [List.getElem?_mapIdx] at h'
  cases e : s.env[i]? with
  | none => rw [e] at h'; cases h'
  | some z =>
    rw [e] at h'
    have h2 : frzSlot I i z = some y := Option.some.inj h'
    cases z with
    | none => cases h2
    | some x =>
      refine ⟨x, rfl, ?_⟩
      cases x with
      | fz d => cases h2; exact .inr ⟨fun d q => (nomatch q), rfl⟩
      | pt => cases h2; exact .inr ⟨fun d q => (nomatch q), rfl⟩
      | gr => cases h2; exact .inr ⟨fun d q => (nomatch q), rfl⟩
      | sc ns => cases h2; exact .inr ⟨fun d q => (nomatch q), rfl⟩
      | own d =>
        have h3 : (if I i = true then some (Sl.fz d) else some (Sl.own d)) = some y := h2
        by_cases hi : I i = true
        · rw [if_pos hi] at h3; cases h3; exact .inl ⟨d, rfl, hi, rfl⟩
        · rw [if_neg hi] at h3; cases h3; exact .inr ⟨fun _ _ => by simpa using hi, rfl⟩
theorem frzI_own {i : Nat} {d : PyData} (h : ownAt (s.frzI I) i d) : ownAt s i d ∧ I i = false := by
  obtain ⟨x, h1, h2⟩ := frzI_at h
  rcases h2 with ⟨e, _, _, q⟩ | ⟨q, e⟩
  · cases q
  · subst e; exact ⟨h1, q d rfl⟩
theorem frzI_fz {i : Nat} {d : PyData} (h : fzAt (s.frzI I) i d) : fzAt s i d ∨ (ownAt s i d ∧ I i = true) := by
  obtain ⟨x, h1, h2⟩ := frzI_at h
  rcases h2 with ⟨e, hx, hI, q⟩ | ⟨q, e⟩
  · cases q; subst hx; exact .inr ⟨h1, hI⟩
  · subst e; exact .inl h1
theorem frzI_pt {i : Nat} (h : ptAt (s.frzI I) i) : ptAt s i := by
  obtain ⟨x, h1, h2⟩ := frzI_at h
  rcases h2 with ⟨e, hx, hI, q⟩ | ⟨q, e⟩
  · cases q
  · subst e; exact h1
theorem frzI_some {i : Nat} {d : PyData} (h : ownAt s i d ∨ fzAt s i d) : ownAt (s.frzI I) i d ∨ fzAt (s.frzI I) i d := by
  have e : ∀ x, s.env[i]? = some (some x) → (s.frzI I).env[i]? = some (frzSlot I i (some x)) := fun x q => by
    show (s.env.mapIdx (frzSlot I))[i]? = _
    rw [List.getElem?_mapIdx, q]; rfl
  rcases h with h | h
  · have q := e _ h
    by_cases hi : I i = true
    · exact .inr (q.trans (by show some (if I i = true then _ else _) = _; rw [if_pos hi]))
    · exact .inl (q.trans (by show some (if I i = true then _ else _) = _; rw [if_neg hi]))
  · exact .inr (e _ h)

theorem frzI_odd {i : Nat} {y : Sl} (hy : y.odd = true) (h : (s.frzI I).env[i]? = some (some y)) : s.env[i]? = some (some y) := by
  obtain ⟨x, h1, h2⟩ := frzI_at h
  rcases h2 with ⟨d, _, _, e⟩ | ⟨_, e⟩
  · rw [e] at hy; cases hy
  · rw [e]; exact h1
/-- what comes back from a callee that was lent the slots of I -/
structure Back (B : Bs) (pa : Option (Addr × Addr)) (Fl H F' H' : Hp) (st' : Option PotSt) : Prop where
  sf : Same Fl F'
  sh : Same F' H'
  fn : ∀ a o, F' a = some o → Fl a = some o ∨ H a = none
  keep : ∀ a o, H a = some o → OffPot pa a → H' a = some o
  pot : PotOk B F' pa st' H'

theorem J.back {F' H' : Hp} {st' : Option PotSt} (j : J B F pa s σ T H) (b : Back B pa (lent s σ F H I) H F' H' st') : J B F' pa { s.frzI I with pot := st' } σ T H' := by
  have sf : Same F F' := j.lentF.trans b.sf
  have own' : ∀ {d a}, Own B F pa H d a → ¬ lentAt s σ I a → Own B F' pa H' d a := fun {d a} x nl => by
    obtain ⟨u, hu⟩ := x.some
    refine x.mono sf ?_ ?_
    · cases e : F' a with
      | none => rfl
      | some z =>
        rcases b.fn a z e with q | q
        · rcases lent_cases q with q | ⟨_, q, _⟩
          · rw [x.f] at q; cases q
          · exact absurd q nl
        · rw [hu] at q; cases q
    · rw [hu]; exact b.keep a u hu x.off
  refine ⟨b.sh, fun a o e off => b.keep a o (j.keep a o e off) (j.offH0 e off), fun a o e => ?_, j.f0.trans sf, j.pa0, (by show (s.env.mapIdx _).length = _; rw [List.length_mapIdx]; exact j.len), fun i d e => ?_, fun i d e => ?_, fun i e => j.pts i (frzI_pt e),
    fun i k d e q q' r => j.une i k d e (frzI_own q).1 (frzI_own q').1 r, fun t ht => ?_, j.tne, fun t ht e i d q => j.tse t ht e i d (frzI_own q).1, b.pot, j.ext.of fun i y hy h => ⟨frzI_odd hy h, rfl⟩⟩
  · rcases b.fn a o e with q | q
    · rcases lent_cases q with q | ⟨_, q, _⟩
      · exact j.fnew a o q
      · obtain ⟨_, _, _, _, _, x⟩ := j.lentAt_own q
        exact .inr x.h0
    · exact .inr (j.h0none q)
  · rcases frzI_fz e with q | ⟨q, hI⟩
    · obtain ⟨v, h1, h2⟩ := j.fzs i d q
      exact ⟨v, h1, h2.mono (.of_same sf)⟩
    · obtain ⟨a, h1, _⟩ := j.own i d q
      exact ⟨_, h1, (j.lentRep hI q h1).mono (.of_same b.sf)⟩
  · obtain ⟨q, hI⟩ := frzI_own e
    obtain ⟨a, h1, x⟩ := j.own i d q
    refine ⟨a, h1, own' x fun ⟨k, d', l1, l2, l3⟩ => ?_⟩
    have := j.une i k d d' q l2 (Eq.trans h1 (Eq.symm l3))
    subst this
    rw [hI] at l1; cases l1
  · have ht' := j.tmp t ht
    obtain ⟨y, v⟩ := t
    cases y with
    | fz d => exact RepD.mono (.of_same sf) ht'
    | fr d' =>
      obtain ⟨a, h1, x⟩ := ht'
      refine ⟨a, h1, own' x fun ⟨k, d2, l1, l2, l3⟩ => ?_⟩
      subst h1
      exact j.tse _ ht rfl k d2 l2 l3
    | sl k =>
      obtain ⟨⟨d, h1⟩, h2⟩ := ht'
      exact ⟨⟨d, frzI_some h1⟩, h2⟩
    | pt => exact ht'
    | gr => exact ht'
    | ob o => obtain ⟨b, e1, e2⟩ := ht'; exact ⟨b, e1, sf _ _ e2⟩

open Classical in
/-- .. where what it hands back holds nothing that was lent -/
theorem J.backC {F' H' : Hp} {st' : Option PotSt} (j : J B F pa s σ T H) (b : Back B pa (lent s σ F H I) H F' H' st') :
    ∃ F'', J B F'' pa { s with pot := st' } σ T H' ∧ (∀ a xs, F' a = some (.tup xs) → F'' a = some (.tup xs)) ∧ ∀ a, F' a = none → F'' a = none := by
  have sf : Same F F' := j.lentF.trans b.sf
  have e0 : ∀ a, lentAt s σ I a → F a = none := fun a l => by
    obtain ⟨_, _, _, _, _, x⟩ := j.lentAt_own l
    exact x.f
  have p1 : ∀ a, lentAt s σ I a → (fun a => if lentAt s σ I a then none else F' a : Hp) a = none := fun a l => if_pos l
  have p2 : ∀ a, ¬ lentAt s σ I a → (fun a => if lentAt s σ I a then none else F' a : Hp) a = F' a := fun a l => if_neg l
  generalize (fun a => if lentAt s σ I a then none else F' a : Hp) = F2 at p1 p2
  have sf2 : Same F F2 := fun a o e => by
    rw [p2 a fun l => by rw [e0 a l] at e; cases e]; exact sf a o e
  have sub2 : ∀ a o, F2 a = some o → F' a = some o := fun a o e => by
    by_cases l : lentAt s σ I a
    · rw [p1 a l] at e; cases e
    · rw [p2 a l] at e; exact e
  have fn2 : ∀ a o, F2 a = some o → F a = some o ∨ H a = none := fun a o e => by
    rcases b.fn a o (sub2 a o e) with q | q
    · rcases lent_cases q with q | ⟨_, q, _⟩
      · exact .inl q
      · rw [p1 a q] at e; cases e
    · exact .inr q
  have own' : ∀ {d a}, Own B F pa H d a → Own B F2 pa H' d a := fun {d a} x => by
    obtain ⟨u, hu⟩ := x.some
    refine x.mono sf2 ?_ ?_
    · cases e : F2 a with
      | none => rfl
      | some z =>
        rcases fn2 a z e with q | q
        · rw [x.f] at q; cases q
        · rw [hu] at q; cases q
    · rw [hu]; exact b.keep a u hu x.off
  refine ⟨F2, ⟨fun a o e => b.sh a o (sub2 a o e), fun a o e off => b.keep a o (j.keep a o e off) (j.offH0 e off), fun a o e => ?_, j.f0.trans sf2, j.pa0, j.len, fun i d e => ?_, fun i d e => ?_, j.pts, j.une, fun t ht => ?_, j.tne, j.tse, ?_, j.ext.of fun _ _ _ h => ⟨h, rfl⟩⟩, fun a xs e => ?_, fun a e => ?_⟩
  · rcases fn2 a o e with q | q
    · exact j.fnew a o q
    · exact .inr (j.h0none q)
  · obtain ⟨v, h1, h2⟩ := j.fzs i d e
    exact ⟨v, h1, h2.mono (.of_same sf2)⟩
  · obtain ⟨a, h1, x⟩ := j.own i d e
    exact ⟨a, h1, own' x⟩
  · have ht' := j.tmp t ht
    obtain ⟨y, v⟩ := t
    cases y with
    | fz d => exact RepD.mono (.of_same sf2) ht'
    | fr d' =>
      obtain ⟨a, h1, x⟩ := ht'
      exact ⟨a, h1, own' x⟩
    | sl k => exact ht'
    | pt => exact ht'
    | gr => exact ht'
    | ob o => obtain ⟨b, e1, e2⟩ := ht'; exact ⟨b, e1, sf2 _ _ e2⟩
  · refine b.pot.at' (fun p g e => ?_) fun _ _ _ => ⟨rfl, rfl⟩
    obtain ⟨z, _, _, h1, h2⟩ := b.pot.some_of e
    have g1 : ∀ a, F' a = none → F2 a = none := fun a q => by
      cases e : F2 a with
      | none => rfl
      | some z => rw [sub2 a z e] at q; cases q
    rw [h1, h2]
    exact ⟨g1 p h1, g1 g h2⟩
  · have nl : ¬ lentAt s σ I a := fun l => by
      obtain ⟨_, d, _, _, _, x⟩ := j.lentAt_own l
      obtain ⟨o, h1, c⟩ := x.cell
      have h2 : F' a = some o := b.sf a o (by rw [lent_own x.f l]; exact h1)
      rw [h2] at e; cases e; cases c
    rw [p2 a nl]
    exact e
  · cases q : F2 a with
    | none => rfl
    | some z => rw [sub2 a z q] at e; cases e
end
end Rg
/-! Rg, part E: denotations of expressions, and that they are right: names, constants, operators by values. -/
namespace Rg
open PySem L2

abbrev DE := S → Option (Vl × S)
abbrev DT := S → Option (Bool × S)
abbrev DEs := S → Option (List Vl × S)

/-- guards known -/
structure RoomG (k : Nat) (A : Around) : Prop where
  r : Room k A
  g : A.guards = some []
theorem RoomG.mono {j k : Nat} {A : Around} (r : RoomG k A) (h : j ≤ k) : RoomG j A := ⟨r.r.mono h, r.g⟩
theorem RoomG.deeper {k : Nat} {A : Around} (r : RoomG (k + 1) A) (env : Env) : RoomG k (A.deeper env) := ⟨r.r.deeper env, r.g⟩

/-- the context fits -/
structure Fit (B : Bs) (X : Cx) (k : Nat) : Prop where
  p : X.prog = B.P
  w : X.w = B.w
  kk : X.K = B.K
  room : RoomG k X.A
  calm : X.calm = true

section
variable (B : Bs)
def tD (f : DE) : TE := fun σ H Q => ∃ F pa s T x s', J B F pa s σ T H ∧ f s = some (x, s') ∧ ∀ F' pa' v H', J B F' pa' s' σ ((x, v) :: T) H' → Q v H'
def tDT (f : DT) : TT := fun σ H Q => ∃ F pa s T x s', J B F pa s σ T H ∧ f s = some (x, s') ∧ ∀ F' pa' H', J B F' pa' s' σ T H' → Q x H'
/-- the values of an argument list, the last on top -/
def onT : List Vl → List V → List (Vl × V) → List (Vl × V)
  | x :: xs, v :: vs, T => onT xs vs ((x, v) :: T)
  | _, _, T => T
def tDs (f : DEs) : TA := fun σ H Q => ∃ F pa s T xs s', J B F pa s σ T H ∧ f s = some (xs, s') ∧ ∀ F' pa' vs H', xs.length = vs.length → J B F' pa' s' σ (onT xs vs T) H' → Q vs H'
structure EV (X : Cx) (e : Expr) (f : DE) : Prop where
  pe : PE X e (tD B f)
structure ET (X : Cx) (e : Expr) (f : DT) : Prop where
  pt : PT X e (tDT B f)
structure EA (X : Cx) (es : List Expr) (f : DEs) : Prop where
  pa : PA X es (tDs B f)
end

section
variable {B : Bs} {X : Cx} {e a b : Expr} {es : List Expr} {f fa fb : DE} {pos : Pos} {n : Nat}

theorem PE.to {t u : TE} (h : PE X e t) (k : ∀ σ H Q, u σ H Q → t σ H Q) : PE X e u := ⟨fun pins s σ H Q I hq => h.run pins s σ H Q I (k σ H Q hq)⟩
theorem PT.to {t u : TT} (h : PT X e t) (k : ∀ σ H Q, u σ H Q → t σ H Q) : PT X e u := ⟨fun pins s σ H Q I hq => h.run pins s σ H Q I (k σ H Q hq)⟩
theorem PA.to {t u : TA} (h : PA X es t) (k : ∀ σ H Q, u σ H Q → t σ H Q) : PA X es u := ⟨fun pos pins s σ H Q I hq => h.run pos pins s σ H Q I (k σ H Q hq)⟩
theorem EV.of {t : TE} (h : PE X e t) (k : ∀ F pa s σ T H Q x s', J B F pa s σ T H → f s = some (x, s') → (∀ F' pa' v H', J B F' pa' s' σ ((x, v) :: T) H' → Q v H') → t σ H Q) : EV B X e f :=
  ⟨PE.to h fun σ H Q ⟨F, pa, s, T, x, s', j, hf, q⟩ => k F pa s σ T H Q x s' j hf q⟩
theorem ET.of {t : TT} {f : DT} (h : PT X e t) (k : ∀ F pa s σ T H Q x s', J B F pa s σ T H → f s = some (x, s') → (∀ F' pa' H', J B F' pa' s' σ T H' → Q x H') → t σ H Q) : ET B X e f :=
  ⟨PT.to h fun σ H Q ⟨F, pa, s, T, x, s', j, hf, q⟩ => k F pa s σ T H Q x s' j hf q⟩

/-! ### names, constants -/
def dVar (i : Nat) : DE := fun s => match s.env[i]? with
  | some (some (.fz d)) => some (.fz d, s)
  | some (some (.own _)) => some (.sl i, s)
  | some (some .pt) => some (.pt, s)
  | some (some .gr) => some (.gr, s)
  | _ => none
theorem ev_var {i : Nat} {x : Str} (hN : X.N[i]? = some x) (hv : Vis X.env.scope x) (hd : (x == ("__debug__" : Str)) = false := by decide) (hcd : (x == ("__classdict__" : Str)) = false := by decide) : EV B X (.Name x pos) (dVar i) := by
  refine .of (pe_var hN hv hd hcd) fun F pa s σ T H Q x s' j hf q => ?_
  unfold dVar at hf
  split at hf
  · rename_i d e
    cases hf
    obtain ⟨v, h1, h2⟩ := j.fzs i d e
    exact ⟨v, h1, q F pa v H (j.pushFz h2)⟩
  · rename_i d e
    cases hf
    obtain ⟨a, h1, h2⟩ := j.own i d e
    exact ⟨_, h1, q F pa _ H (j.push rfl ⟨⟨d, .inl e⟩, h1⟩)⟩
  · rename_i e
    cases hf
    obtain ⟨p, g, h1, h2⟩ := j.pts i e
    exact ⟨_, h2, q F pa _ H (j.push rfl ⟨p, g, h1, rfl⟩)⟩
  · rename_i e
    cases hf
    obtain ⟨p, g, h1, h2⟩ := j.ext.gr i e
    exact ⟨_, h2, q F pa _ H (j.push rfl ⟨p, g, h1, rfl⟩)⟩
  · cases hf
def dLit (d : PyData) : DE := fun s => some (.fz d, s)
theorem EV.lit {v : V} {d : PyData} (h : PE X e (tC v)) (r : ∀ F, B.Rep F d v) : EV B X e (dLit d) :=
  .of h fun F pa s σ T H Q x s' j hf q => by cases hf; exact q F pa v H (j.pushFz (r F))
theorem ev_int {i j} : EV B X (.Constant (.int i) j pos) (dLit (.int i)) := .lit pe_int fun _ => .int _
theorem ev_bl {b j} : EV B X (.Constant (.bool b) j pos) (dLit (.bool b)) := .lit pe_bl fun _ => .bl _
theorem ev_non {j} : EV B X (.Constant .none j pos) (dLit .none) := .lit pe_non fun _ => .non
theorem ev_str {x j} : EV B X (.Constant (.str x) j pos) (dLit (.str x)) := .lit pe_str fun _ => .str _
/-- a module's int -/
theorem ev_glob {x : Str} {i : Int} {t : Tok} (hg : Gl X x) (hm : X.mg x = some (.int i t)) (hd : (x == ("__debug__" : Str)) = false := by decide) : EV B X (.Name x pos) (dLit (.int i)) :=
  .lit (pe_glob (v := .int i) hg hm ⟨t, rfl⟩ hd) fun _ => .int _

/-! ### operands -/
/-- the object itself on H, its parts on F -/
inductive Top (P : Program) (w : World) (K : PySem.W.Frag) (F H : Hp) : PyData → V → Prop
  | non : Top P w K F H .none .non
  | bl (b : Bool) : Top P w K F H (.bool b) (.bl b)
  | int (i : Int) : Top P w K F H (.int i) (.int i)
  | str (x : Str) : Top P w K F H (.str x) (.str x)
  | lst {a : Addr} {vs : List V} {ds : List PyData} : H a = some (.lst vs) → RepAll P w K F ds vs → Top P w K F H (.list ds) (.ref a)
  | tup {a : Addr} {vs : List V} {ds : List PyData} : F a = some (.tup vs) → RepAll P w K F ds vs → Top P w K F H (.tuple ds) (.ref a)
  | dK {a : Addr} {kvs : List (Key × V)} {ps : List (PyData × PyData)} : H a = some (.dK kvs) → RepK P w K F ps kvs → Top P w K F H (.dict ps) (.ref a)
  | dN {a : Addr} {xs : List (NestedKey × Addr × Value)} {ps : List (PyData × PyData)} {n : Nat} : H a = some (dN P w a xs n) → xs ≠ [] → RepN P w K F ps xs → Top P w K F H (.dict ps) (.ref a)
abbrev Bs.Top (B : Bs) (F H : Hp) (d : PyData) (v : V) : Prop := Rg.Top B.P B.w B.K F H d v
theorem RepD.top {P : Program} {w : World} {K : PySem.W.Frag} {F H : Hp} (s : Same F H) {d : PyData} {v : V} (h : RepD P w K F d v) : Top P w K F H d v := by
  cases h with
  | non => exact .non
  | bl b => exact .bl b
  | int i => exact .int i
  | str x => exact .str x
  | lst h t => exact .lst (s _ _ h) t
  | tup h t => exact .tup h t
  | dK h t => exact .dK (s _ _ h) t
  | dN h n t => exact .dN (s _ _ h) n t
theorem Cell.top {P : Program} {w : World} {K : PySem.W.Frag} {F H : Hp} {d : PyData} {a : Addr} {o : HO} (c : Cell P w K F d a o) (h : H a = some o) : Top P w K F H d (.ref a) := by
  cases c with
  | lst r => exact .lst h r
  | dK r => exact .dK h r
  | dN n r => exact .dN h n r
theorem Top.rep {P : Program} {w : World} {K : PySem.W.Frag} {F H : Hp} (s : Same F H) {d : PyData} {v : V} (h : Top P w K F H d v) : RepD P w K H d v := by
  cases h with
  | non => exact .non
  | bl b => exact .bl b
  | int i => exact .int i
  | str x => exact .str x
  | lst h t => exact .lst h (t.mono s)
  | tup h t => exact .tup (s _ _ h) (t.mono s)
  | dK h t => exact .dK h (t.mono s)
  | dN h n t => exact .dN h n (t.mono s)
theorem TOk.top {F : Hp} {pa : Option (Addr × Addr)} {s : S} {σ : St} {T : List (Vl × V)} {H : Hp} (j : J B F pa s σ T H) {x : Vl} {v : V} {d : PyData} (ht : TOk B F pa s σ H (x, v)) (e : cont s x = some d) : B.Top F H d v := by
  cases x with
  | fz d' => cases e; exact RepD.top j.sub ht
  | fr d' =>
    cases e
    obtain ⟨a, h1, h2⟩ := ht
    subst h1
    obtain ⟨o, h3, c⟩ := h2.cell
    exact c.top h3
  | sl i =>
    obtain ⟨⟨d', h1⟩, h2⟩ := ht
    rcases h1 with h1 | h1
    · have h1' := h1
      unfold ownAt at h1'
      simp only [cont, h1'] at e
      cases e
      obtain ⟨a, h3, h4⟩ := j.own i d h1
      obtain ⟨o, h5, c⟩ := h4.cell
      rw [h2.inj h3]
      exact c.top h5
    · have h1' := h1
      unfold fzAt at h1'
      simp only [cont, h1'] at e
      cases e
      obtain ⟨u, h3, h4⟩ := j.fzs i d h1
      rw [h2.inj h3]
      exact h4.top j.sub
  | pt => cases e
  | gr => cases e
  | ob o => cases e

/-- a new value isn't kept new while others are reckoned -/
def settle : Option (Vl × S) → Option (Vl × S)
  | some (.fr d, s) => some (.fz d, s)
  | r => r
def dSet (f : DE) : DE := fun s => settle (f s)
theorem settle_some {r : Option (Vl × S)} {x : Vl} {s : S} (h : settle r = some (x, s)) : (r = some (x, s) ∧ x.isFr = false) ∨ ∃ d, r = some (.fr d, s) ∧ x = .fz d := by
  unfold settle at h
  split at h
  · cases h; exact .inr ⟨_, rfl, rfl⟩
  · rename_i hne
    subst h
    refine .inl ⟨rfl, ?_⟩
    cases x with
    | fr d => exact absurd rfl (hne d s)
    | fz _ => rfl
    | sl _ => rfl
    | pt => rfl
    | gr => rfl
    | ob o => rfl
theorem EV.set (h : EV B X e f) : EV B X e (dSet f) := .of h.pe fun F pa s σ T H Q x s' j hf q => by
  rcases settle_some hf with ⟨h1, _⟩ | ⟨d, h1, h2⟩
  · exact ⟨F, pa, s, T, x, s', j, h1, q⟩
  · subst h2
    refine ⟨F, pa, s, T, _, s', j, h1, fun F' pa' v H' j' => ?_⟩
    obtain ⟨F2, _, j2⟩ := j'.frzTop
    exact q F2 pa' v H' j2
theorem EV.nofr {F pa s σ T H x s'} (j : J B F pa s σ T H) (h : dSet f s = some (x, s')) : x.isFr = false := by
  rcases settle_some h with ⟨_, h2⟩ | ⟨d, _, h2⟩
  · exact h2
  · rw [h2]; rfl

/-! ### an operation on two values -/
abbrev Op2 := PyData → PyData → Option Vl
def OpOk (B : Bs) (X : Cx) (f : Value → Value → Sem Value) (op : Op2) : Prop :=
  ∃ r : R2, OpR X f r ∧ ∀ F pa s σ T H Q v w dx dy z, J B F pa s σ T H → B.Top F H dx v → B.Top F H dy w → op dx dy = some z → (∀ F' u H', J B F' pa s σ ((z, u) :: T) H' → Q u H') → r v w H Q
def dOp (op : Op2) (fa fb : DE) : DE := fun s => match dSet fa s with
  | some (x, s1) => match dSet fb s1 with
    | some (y, s2) => match cont s2 x, cont s2 y with
      | some dx, some dy => (op dx dy).map fun z => (z, s2)
      | _, _ => none
    | none => none
  | none => none
theorem drop12 {α : Type} {a b c : α} {l : List α} : (a :: l).Sublist (a :: b :: c :: l) := .cons_cons a (.cons b (.cons c (.refl l)))
theorem drop1 {α : Type} {a b : α} {l : List α} : (a :: l).Sublist (a :: b :: l) := .cons_cons a (.cons b (.refl l))
/-- the reading of two operands and an operation -/
theorem op_read {op : Op2} {f : Value → Value → Sem Value} {r : R2} (hr : ∀ F pa s σ T H Q v w dx dy z, J B F pa s σ T H → B.Top F H dx v → B.Top F H dy w → op dx dy = some z → (∀ F' u H', J B F' pa s σ ((z, u) :: T) H' → Q u H') → r v w H Q)
    {F pa s σ T H Q x s'} (j : J B F pa s σ T H) (hf : dOp op fa fb s = some (x, s')) (q : ∀ F' pa' v H', J B F' pa' s' σ ((x, v) :: T) H' → Q v H') : tOp r (tD B (dSet fa)) (tD B (dSet fb)) σ H Q := by
  unfold dOp at hf
  split at hf
  · rename_i x1 s1 h1
    split at hf
    · rename_i y s2 h2
      split at hf
      · rename_i dx dy hx hy
        obtain ⟨z, hz, e⟩ := Option.map_eq_some_iff.mp hf
        cases e
        refine ⟨F, pa, s, T, x1, s1, j, h1, fun F1 pa1 v H1 j1 => ?_⟩
        refine ⟨F1, pa1, s1, _, y, _, j1, h2, fun F2 pa2 u H2 j2 => ?_⟩
        refine hr F2 pa2 _ σ _ H2 Q v u dx dy _ j2 (TOk.top j2 (j2.tmp _ (List.mem_cons_of_mem _ List.mem_cons_self)) hx) (TOk.top j2 (j2.tmp _ List.mem_cons_self) hy) hz fun F3 u3 H3 j3 => ?_
        exact q F3 pa2 u3 H3 (j3.sub_T drop12)
      · cases hf
    · cases hf
  · cases hf
theorem ev_bin {op : Operator} {o : Op2} (ho : OpOk B X (binaryOp op) o) (ha : EV B X a fa) (hb : EV B X b fb) : EV B X (.BinOp a op b pos) (dOp o fa fb) := by
  obtain ⟨r, h1, h2⟩ := ho
  exact .of (pe_op h1 ha.set.pe hb.set.pe) fun F pa s σ T H Q x s' j hf q => op_read (f := binaryOp op) h2 j hf q
theorem ev_cmp {op : CmpOp} {o : Op2} (ho : OpOk B X (compareOp op) o) (ha : EV B X a fa) (hb : EV B X b fb) (hm : behindInMarks op b = false := by first | exact nomark _ | rfl) : EV B X (.Compare a [op] [b] pos) (dOp o fa fb) := by
  obtain ⟨r, h1, h2⟩ := ho
  exact .of (pe_cmpR h1 ha.set.pe hb.set.pe hm) fun F pa s σ T H Q x s' j hf q => op_read (f := compareOp op) h2 j hf q
/-- a value's truth, where it is a bool -/
def asB : Option (Vl × S) → Option (Bool × S)
  | some (.fz (.bool b), s) => some (b, s)
  | _ => none
theorem asB_some {r : Option (Vl × S)} {b : Bool} {s : S} (h : asB r = some (b, s)) : r = some (.fz (.bool b), s) := by
  unfold asB at h
  split at h
  · cases h; rfl
  · cases h
theorem rep_bl {F : Hp} {b : Bool} {v : V} (h : B.Rep F (.bool b) v) : v = .bl b := by cases h; rfl
theorem et_cmp {op : CmpOp} {o : Op2} (ho : OpOk B X (compareOp op) o) (ha : EV B X a fa) (hb : EV B X b fb) (hm : behindInMarks op b = false := by first | exact nomark _ | rfl) : ET B X (.Compare a [op] [b] pos) (fun s => asB (dOp o fa fb s)) := by
  obtain ⟨r, h1, h2⟩ := ho
  refine .of (pt_cmpR h1 ha.set.pe hb.set.pe hm) fun F pa s σ T H Q x s' j hf q => ?_
  refine op_read (f := compareOp op) h2 j (asB_some hf) fun F' pa' v H' j' => ?_
  exact ⟨x, rep_bl (j'.tmp _ List.mem_cons_self), q F' pa' H' j'.pop⟩
theorem et_val (h : EV B X e f) (he : ∀ whole, isTrue e X.env whole = (do let v ← whole; standAt e.pos; holding [v] (truthy v)) := by intro _; rfl) : ET B X e (fun s => asB (f s)) :=
  .of (pt_val h.pe he) fun F pa s σ T H Q x s' j hf q => ⟨F, pa, s, T, _, s', j, asB_some hf, fun F' pa' v H' j' => ⟨x, rep_bl (j'.tmp _ List.mem_cons_self), q F' pa' H' j'.pop⟩⟩

/-! ### and, or, not, if-else -/
def dAnd (f g : DT) : DT := fun s => match f s with
  | some (true, s1) => g s1
  | r => r
def dOr (f g : DT) : DT := fun s => match f s with
  | some (false, s1) => g s1
  | r => r
def dNot (f : DT) : DT := fun s => (f s).map fun r => (!r.1, r.2)
def dVal (f : DT) : DE := fun s => (f s).map fun r => (.fz (.bool r.1), r.2)
def dIf (c : DT) (f g : DE) : DE := fun s => match c s with
  | some (true, s1) => f s1
  | some (false, s1) => g s1
  | none => none
structure EW (B : Bs) (X : Cx) (e : Expr) (f : DT) : Prop where
  pw : PW X e (tDT B f)
variable {f1 f2 : DT} {rest : List Expr}
theorem PW.to {t u : TT} (h : PW X e t) (k : ∀ σ H Q, u σ H Q → t σ H Q) : PW X e u := ⟨fun wh pins s σ H Q I hq => h.run wh pins s σ H Q I (k σ H Q hq)⟩
theorem EW.et (h : EW B X e f1) : ET B X e f1 := ⟨h.pw.pt⟩
theorem ew_and1 (h : ET B X a f1) : EW B X (.BoolOp .And [a] pos) f1 := ⟨pw_and1 h.pt⟩
theorem ew_or1 (h : ET B X a f1) : EW B X (.BoolOp .Or [a] pos) f1 := ⟨pw_or1 h.pt⟩
theorem ew_and (h : ET B X a f1) (g : EW B X (.BoolOp .And (b :: rest) pos) f2) : EW B X (.BoolOp .And (a :: b :: rest) pos) (dAnd f1 f2) := by
  refine ⟨PW.to (pw_and h.pt g.pw) fun σ H Q ⟨F, pa, s, T, x, s', j, hf, q⟩ => ?_⟩
  unfold dAnd at hf
  split at hf
  · rename_i s1 h1
    exact ⟨F, pa, s, T, true, s1, j, h1, fun F' pa' H' j' => iteT ⟨F', pa', s1, T, x, s', j', hf, q⟩⟩
  · rename_i r hne
    refine ⟨F, pa, s, T, x, s', j, hf, fun F' pa' H' j' => ?_⟩
    cases x with
    | true => exact absurd hf (hne s')
    | false => exact iteF (q F' pa' H' j')
theorem ew_or (h : ET B X a f1) (g : EW B X (.BoolOp .Or (b :: rest) pos) f2) : EW B X (.BoolOp .Or (a :: b :: rest) pos) (dOr f1 f2) := by
  refine ⟨PW.to (pw_or h.pt g.pw) fun σ H Q ⟨F, pa, s, T, x, s', j, hf, q⟩ => ?_⟩
  unfold dOr at hf
  split at hf
  · rename_i s1 h1
    exact ⟨F, pa, s, T, false, s1, j, h1, fun F' pa' H' j' => iteF ⟨F', pa', s1, T, x, s', j', hf, q⟩⟩
  · rename_i r hne
    refine ⟨F, pa, s, T, x, s', j, hf, fun F' pa' H' j' => ?_⟩
    cases x with
    | false => exact absurd hf (hne s')
    | true => exact iteT (q F' pa' H' j')
theorem et_not (h : ET B X a f1) : ET B X (.UnaryOp .Not a pos) (dNot f1) := by
  refine .of (pt_not h.pt) fun F pa s σ T H Q x s' j hf q => ?_
  obtain ⟨⟨c, s1⟩, h1, e⟩ := Option.map_eq_some_iff.mp hf
  cases e
  exact ⟨F, pa, s, T, c, _, j, h1, q⟩
theorem ev_one {op} (h : ET B X a f1) (hv : EV B X a (dVal f1)) : EV B X (.BoolOp op [a] pos) (dVal f1) := ⟨pe_one hv.pe⟩
theorem dVal_some {s s' : S} {x : Vl} (h : dVal f1 s = some (x, s')) : ∃ b, f1 s = some (b, s') ∧ x = .fz (.bool b) := by
  obtain ⟨⟨c, s1⟩, h1, e⟩ := Option.map_eq_some_iff.mp h
  cases e
  exact ⟨c, h1, rfl⟩
theorem ev_and (h : EV B X a (dVal f1)) (g : EV B X (.BoolOp .And (b :: rest) pos) (dVal f2)) : EV B X (.BoolOp .And (a :: b :: rest) pos) (dVal (dAnd f1 f2)) := by
  refine .of (pe_and h.pe g.pe) fun F pa s σ T H Q x s' j hf q => ?_
  obtain ⟨c, hc, e⟩ := dVal_some hf
  subst e
  unfold dAnd at hc
  split at hc
  · rename_i s1 h1
    refine ⟨F, pa, s, T, .fz (.bool true), s1, j, by unfold dVal; rw [h1]; rfl, fun F' pa' v H' j' => ⟨true, rep_bl (j'.tmp _ List.mem_cons_self), iteT ?_⟩⟩
    exact ⟨F', pa', s1, T, _, s', j'.pop, by unfold dVal; rw [hc]; rfl, q⟩
  · rename_i r hne
    refine ⟨F, pa, s, T, .fz (.bool c), s', j, by unfold dVal; rw [hc]; rfl, fun F' pa' v H' j' => ?_⟩
    have hv := rep_bl (j'.tmp _ List.mem_cons_self)
    subst hv
    cases c with
    | true => exact absurd hc (hne s')
    | false => exact ⟨false, rfl, iteF (q F' pa' _ H' j')⟩
theorem ev_or (h : EV B X a (dVal f1)) (g : EV B X (.BoolOp .Or (b :: rest) pos) (dVal f2)) : EV B X (.BoolOp .Or (a :: b :: rest) pos) (dVal (dOr f1 f2)) := by
  refine .of (pe_or h.pe g.pe) fun F pa s σ T H Q x s' j hf q => ?_
  obtain ⟨c, hc, e⟩ := dVal_some hf
  subst e
  unfold dOr at hc
  split at hc
  · rename_i s1 h1
    refine ⟨F, pa, s, T, .fz (.bool false), s1, j, by unfold dVal; rw [h1]; rfl, fun F' pa' v H' j' => ⟨false, rep_bl (j'.tmp _ List.mem_cons_self), iteF ?_⟩⟩
    exact ⟨F', pa', s1, T, _, s', j'.pop, by unfold dVal; rw [hc]; rfl, q⟩
  · rename_i r hne
    refine ⟨F, pa, s, T, .fz (.bool c), s', j, by unfold dVal; rw [hc]; rfl, fun F' pa' v H' j' => ?_⟩
    have hv := rep_bl (j'.tmp _ List.mem_cons_self)
    subst hv
    cases c with
    | false => exact absurd hc (hne s')
    | true => exact ⟨true, rfl, iteT (q F' pa' _ H' j')⟩
theorem ev_not (h : EV B X a (dVal f1)) : EV B X (.UnaryOp .Not a pos) (dVal (dNot f1)) := by
  refine .of (pe_not h.pe) fun F pa s σ T H Q x s' j hf q => ?_
  obtain ⟨c, hc, e⟩ := dVal_some hf
  subst e
  obtain ⟨⟨d, s1⟩, h1, e⟩ := Option.map_eq_some_iff.mp hc
  cases e
  refine ⟨F, pa, s, T, .fz (.bool d), _, j, by unfold dVal; rw [h1]; rfl, fun F' pa' v H' j' => ⟨d, rep_bl (j'.tmp _ List.mem_cons_self), ?_⟩⟩
  exact q F' pa' _ H' (j'.pop.pushFz (.bl _))
/-- a value that is a bool, as a test's value -/
def dBool (f : DE) : DT := fun s => asB (f s)
theorem EV.val (h : EV B X e f) : EV B X e (dVal (dBool f)) := .of h.pe fun F pa s σ T H Q x s' j hf q => by
  obtain ⟨c, hc, e⟩ := dVal_some hf
  subst e
  exact ⟨F, pa, s, T, _, s', j, asB_some hc, q⟩
theorem ev_ifExp {c : Expr} (hc : ET B X c f1) (ha : EV B X a fa) (hb : EV B X b fb) : EV B X (.IfExp c a b pos) (dIf f1 fa fb) := by
  refine .of (pe_ifExp hc.pt ha.pe hb.pe) fun F pa s σ T H Q x s' j hf q => ?_
  unfold dIf at hf
  split at hf
  · rename_i s1 h1
    exact ⟨F, pa, s, T, true, s1, j, h1, fun F' pa' H' j' => iteT ⟨F', pa', s1, T, x, s', j', hf, q⟩⟩
  · rename_i s1 h1
    exact ⟨F, pa, s, T, false, s1, j, h1, fun F' pa' H' j' => iteF ⟨F', pa', s1, T, x, s', j', hf, q⟩⟩
  · cases hf

/-! ### argument lists, displays -/
def dNil : DEs := fun s => some ([], s)
def dCons (f : DE) (g : DEs) : DEs := fun s => match dSet f s with
  | some (x, s1) => match g s1 with
    | some (xs, s2) => some (x :: xs, s2)
    | none => none
  | none => none
theorem ea_nil : EA B X [] dNil := ⟨PA.to pa_nil fun σ H Q ⟨F, pa, s, T, x, s', j, hf, q⟩ => by cases hf; exact q F pa [] H rfl j⟩
theorem ea_cons {g : DEs} (h : EV B X e f) (hr : EA B X es g) (hs : starEach (e :: es) X.env = (false, eval e X.env) :: starEach es X.env := by rfl) : EA B X (e :: es) (dCons f g) := by
  refine ⟨PA.to (pa_cons h.set.pe hr.pa hs) fun σ H Q ⟨F, pa, s, T, xs, s', j, hf, q⟩ => ?_⟩
  unfold dCons at hf
  split at hf
  · rename_i x s1 h1
    split at hf
    · rename_i ys s2 h2
      cases hf
      refine ⟨F, pa, s, T, x, s1, j, h1, fun F1 pa1 v H1 j1 => ?_⟩
      exact ⟨F1, pa1, s1, _, ys, _, j1, h2, fun F2 pa2 vs H2 hl j2 => q F2 pa2 (v :: vs) H2 (by simp [hl]) j2⟩
    · cases hf
  · cases hf
end
end Rg
/-! Rg, part F: operators and comparisons by values; keys of dicts. -/
namespace Rg
open PySem L2

/-! ### data, equal -/
mutual
def deq : PyData → PyData → Bool
  | .none, .none => true
  | .bool a, .bool b => a == b
  | .int a, .int b => a == b
  | .str a, .str b => decide (a = b)
  | .list a, .list b => deqs a b
  | .tuple a, .tuple b => deqs a b
  | .dict a, .dict b => deqp a b
  | _, _ => false
def deqs : List PyData → List PyData → Bool
  | [], [] => true
  | a :: as, b :: bs => deq a b && deqs as bs
  | _, _ => false
def deqp : List (PyData × PyData) → List (PyData × PyData) → Bool
  | [], [] => true
  | (a, a') :: as, (b, b') :: bs => deq a b && deq a' b' && deqp as bs
  | _, _ => false
end
mutual
theorem deq_self : ∀ a : PyData, deq a a = true
  | .none => rfl
  | .bool a => by simp [deq]
  | .int a => by simp [deq]
  | .str a => by simp [deq]
  | .list a => by rw [deq]; exact deqs_self a
  | .tuple a => by rw [deq]; exact deqs_self a
  | .dict a => by rw [deq]; exact deqp_self a
theorem deqs_self : ∀ a : List PyData, deqs a a = true
  | [] => rfl
  | a :: as => by rw [deqs, deq_self a, deqs_self as]; rfl
theorem deqp_self : ∀ a : List (PyData × PyData), deqp a a = true
  | [] => rfl
  | (a, b) :: as => by rw [deqp, deq_self a, deq_self b, deqp_self as]; rfl
end
mutual
theorem eq_of_deq : ∀ a b : PyData, deq a b = true → a = b
  | .none, b, h => by cases b <;> simp_all [deq]
  | .bool a, b, h => by cases b <;> simp_all [deq]
  | .int a, b, h => by cases b <;> simp_all [deq]
  | .str a, b, h => by cases b <;> simp_all [deq]
  | .list a, .list b, h => by rw [deq] at h; rw [eq_of_deqs a b h]
  | .tuple a, .tuple b, h => by rw [deq] at h; rw [eq_of_deqs a b h]
  | .dict a, .dict b, h => by rw [deq] at h; rw [eq_of_deqp a b h]
  | .list a, .none, h | .list a, .bool _, h | .list a, .int _, h | .list a, .str _, h | .list a, .tuple _, h | .list a, .dict _, h => by simp [deq] at h
  | .tuple a, .none, h | .tuple a, .bool _, h | .tuple a, .int _, h | .tuple a, .str _, h | .tuple a, .list _, h | .tuple a, .dict _, h => by simp [deq] at h
  | .dict a, .none, h | .dict a, .bool _, h | .dict a, .int _, h | .dict a, .str _, h | .dict a, .list _, h | .dict a, .tuple _, h => by simp [deq] at h
theorem eq_of_deqs : ∀ a b : List PyData, deqs a b = true → a = b
  | [], [], _ => rfl
  | a :: as, b :: bs, h => by
    rw [deqs, Bool.and_eq_true] at h
    rw [eq_of_deq a b h.1, eq_of_deqs as bs h.2]
  | [], _ :: _, h => by simp [deqs] at h
  | _ :: _, [], h => by simp [deqs] at h
theorem eq_of_deqp : ∀ a b : List (PyData × PyData), deqp a b = true → a = b
  | [], [], _ => rfl
  | (a, a') :: as, (b, b') :: bs, h => by
    rw [deqp, Bool.and_eq_true, Bool.and_eq_true] at h
    rw [eq_of_deq a b h.1.1, eq_of_deq a' b' h.1.2, eq_of_deqp as bs h.2]
  | [], _ :: _, h => by simp [deqp] at h
  | _ :: _, [], h => by simp [deqp] at h
end
theorem deq_iff (a b : PyData) : deq a b = true ↔ a = b := ⟨eq_of_deq a b, fun e => e ▸ deq_self a⟩
theorem deq_ne {a b : PyData} (h : a ≠ b) : deq a b = false := by
  cases e : deq a b with
  | true => exact absurd (eq_of_deq a b e) h
  | false => rfl
instance : DecidableEq PyData := fun a b => if h : deq a b = true then .isTrue (eq_of_deq a b h) else .isFalse fun e => h (e ▸ deq_self a)
theorem decide_deq (a b : PyData) : deq a b = decide (a = b) := by
  by_cases e : a = b
  · subst e; rw [deq_self]; simp
  · rw [deq_ne e]; simp [e]

/-! ### keys -/
mutual
theorem keyN_some : ∀ {d : PyData}, keyOk d = true → ∃ k, keyN d = some k
  | .int i, _ => ⟨_, rfl⟩
  | .str x, _ => ⟨_, rfl⟩
  | .tuple ds, h => by
    rw [keyOk] at h
    obtain ⟨ks, e⟩ := keyNs_some h
    exact ⟨.tup ks, by rw [keyN, e]; rfl⟩
  | .none, h | .bool _, h | .list _, h | .dict _, h => by simp [keyOk] at h
theorem keyNs_some : ∀ {ds : List PyData}, keyOks ds = true → ∃ ks, keyNs ds = some ks
  | [], _ => ⟨[], rfl⟩
  | d :: ds, h => by
    rw [keyOks, Bool.and_eq_true] at h
    obtain ⟨k, e⟩ := keyN_some h.1
    obtain ⟨ks, e'⟩ := keyNs_some h.2
    exact ⟨k :: ks, by rw [keyNs, e, e']⟩
end
mutual
theorem keyN_inj : ∀ {a b : PyData} {k : NestedKey}, keyOk a = true → keyOk b = true → keyN a = some k → keyN b = some k → a = b
  | .int i, b, k, _, hb, e, e' => by
    cases e
    cases b <;> simp_all [keyN, keyOk]
  | .str x, b, k, _, hb, e, e' => by
    cases e
    cases b <;> simp_all [keyN, keyOk]
  | .tuple ds, .tuple es, k, ha, hb, e, e' => by
    rw [keyOk] at ha hb
    rw [keyN] at e e'
    obtain ⟨ks, h1, h2⟩ := Option.map_eq_some_iff.mp e
    obtain ⟨ks', h1', h2'⟩ := Option.map_eq_some_iff.mp e'
    rw [← h2'] at h2
    cases h2
    rw [keyNs_inj ha hb h1 h1']
  | .tuple ds, .int _, k, _, _, e, e' | .tuple ds, .str _, k, _, _, e, e' => by
    rw [keyN] at e
    obtain ⟨ks, h1, h2⟩ := Option.map_eq_some_iff.mp e
    subst h2
    cases e'
  | .tuple ds, .none, k, _, hb, _, _ | .tuple ds, .bool _, k, _, hb, _, _ | .tuple ds, .list _, k, _, hb, _, _ | .tuple ds, .dict _, k, _, hb, _, _ => by simp [keyOk] at hb
  | .none, _, k, ha, _, _, _ | .bool _, _, k, ha, _, _, _ | .list _, _, k, ha, _, _, _ | .dict _, _, k, ha, _, _, _ => by simp [keyOk] at ha
theorem keyNs_inj : ∀ {a b : List PyData} {k : List NestedKey}, keyOks a = true → keyOks b = true → keyNs a = some k → keyNs b = some k → a = b
  | [], [], k, _, _, _, _ => rfl
  | a :: as, b :: bs, k, ha, hb, e, e' => by
    rw [keyOks, Bool.and_eq_true] at ha hb
    rw [keyNs] at e e'
    split at e
    · rename_i x xs h1 h2
      cases e
      split at e'
      · rename_i y ys h1' h2'
        cases e'
        rw [keyN_inj ha.1 hb.1 h1 h1', keyNs_inj ha.2 hb.2 h2 h2']
      · cases e'
    · cases e
  | [], b :: bs, k, _, hb, e, e' => by
    cases e
    rw [keyNs] at e'
    split at e' <;> cases e'
  | a :: as, [], k, _, _, e, e' => by
    cases e'
    rw [keyNs] at e
    split at e <;> cases e
end
theorem keyK_iff {a b : PyData} {x y : Key} (e : keyK a = some x) (e' : keyK b = some y) : a = b ↔ x = y := by
  cases a <;> cases b <;> simp_all [keyK]
  all_goals (subst e; subst e'; simp)
theorem keyK_ok {a : PyData} {x : Key} (e : keyK a = some x) : keyOk a = true := by cases a <;> simp_all [keyK, keyOk]

def dlook (ps : List (PyData × PyData)) (k : PyData) : Option PyData := match ps with
  | [] => none
  | (a, d) :: r => if deq a k then some d else dlook r k
def dput (ps : List (PyData × PyData)) (k d : PyData) : List (PyData × PyData) :=
  if ps.any (fun p => deq p.1 k) then ps.map (fun p => if deq p.1 k then (p.1, d) else p) else ps ++ [(k, d)]

/-! ### sizes -/
def lim : Nat := 1000000
theorem lim_ok {n : Nat} (h : n ≤ lim) : n ≤ sizeLine := Nat.le_trans h (by rw [sizeLine_eq]; decide)
theorem lim_lt {n : Nat} (h : n ≤ lim) : n < sizeLine := Nat.lt_of_le_of_lt h (by rw [sizeLine_eq]; decide)

section
variable {B : Bs} {X : Cx} {k : Nat}
theorem J.newTup {F pa s σ T H} (j : J B F pa s σ T H) {p : Addr} (h : H p = none) {ds : List PyData} {vs : List V} (r : RepAll B.P B.w B.K F ds vs) : J B (upd F p (.tup vs)) pa s σ ((.fz (.tuple ds), .ref p) :: T) (upd H p (.tup vs)) := by
  obtain ⟨sf, j'⟩ := j.laid h (.tup vs)
  exact j'.pushFz (.tup upd_same (r.mono sf))
theorem Top.tupF {F H : Hp} {ds : List PyData} {v : V} (h : B.Top F H (.tuple ds) v) : True := trivial

mutual
theorem RepD.dp {P : Program} {w : World} {K : PySem.W.Frag} {H : Hp} : ∀ {d : PyData} {v : V}, d.canLay0 = true → RepD P w K H d v → Dp K H v d
  | _, _, _, .non => .non
  | _, _, _, .bl b => .bl b
  | _, _, _, .int i => .int i
  | _, _, _, .str x => .str x
  | _, _, c, .lst h t => .lst (.of h) (RepAll.dp (by simpa [PyData.canLay0] using c) t)
  | _, _, c, .tup h t => .tup (.of h) (RepAll.dp (by simpa [PyData.canLay0] using c) t)
  | _, _, c, .dK _ _ => by simp [PyData.canLay0] at c
  | _, _, c, .dN _ _ _ => by simp [PyData.canLay0] at c
theorem RepAll.dp {P : Program} {w : World} {K : PySem.W.Frag} {H : Hp} : ∀ {ds : List PyData} {vs : List V}, PyData.canLayAll0 ds = true → RepAll P w K H ds vs → DpAll K H vs ds
  | _, _, _, .nil => .nil
  | _, _, c, .cons h t => by
    simp only [PyData.canLayAll0, Bool.and_eq_true] at c
    exact .cons (RepD.dp c.1 h) (RepAll.dp c.2 t)
end
theorem shaped_lay {d : PyData} (h : SeqAt.shaped d = true) : d.canLay0 = true := SeqAt.canLay_of_shaped h

/-! ### arithmetic -/
def opAdd : Op2
  | .int i, .int j => some (.fz (.int (i + j)))
  | .str x, .str y => if x.length + y.length ≤ lim then some (.fz (.str (x ++ y))) else none
  | .list xs, .list ys => if xs.length + ys.length ≤ lim then some (.fr (.list (xs ++ ys))) else none
  | .tuple xs, .tuple ys => if xs.length + ys.length ≤ lim then some (.fz (.tuple (xs ++ ys))) else none
  | _, _ => none
theorem opAdd_ok : OpOk B X (binaryOp .Add) opAdd := by
  refine ⟨_, op_add.or (op_add_str.or (op_catA.or op_cat)), fun F pa s σ T H Q v w dx dy z j hx hy h q => ?_⟩
  unfold opAdd at h
  split at h
  · cases h; cases hx; cases hy
    exact .inl ⟨_, _, rfl, rfl, q F _ H (j.pushFz (.int _))⟩
  · split at h
    · rename_i hl
      cases h; cases hx; cases hy
      exact .inr (.inl ⟨_, _, rfl, rfl, lim_ok hl, q F _ H (j.pushFz (.str _))⟩)
    · cases h
  · split at h
    · rename_i hl
      cases h
      cases hx with
      | lst h1 r1 =>
        cases hy with
        | lst h2 r2 =>
          exact .inr (.inr (.inr ⟨_, _, _, _, rfl, rfl, h1, h2, by rw [← r1.length, ← r2.length]; exact lim_ok hl, fun p hp => q F _ _ (j.made hp (.lst (r1.append r2)))⟩))
    · cases h
  · split at h
    · rename_i hl
      cases h
      cases hx with
      | tup h1 r1 =>
        cases hy with
        | tup h2 r2 =>
          refine .inr (.inr (.inl ⟨_, _, _, _, rfl, rfl, .of (j.sub _ _ h1), .of (j.sub _ _ h2), by rw [← r1.length, ← r2.length]; exact lim_ok hl, fun e => ?_, fun _ e => ?_, fun _ _ p hp => q _ _ _ (j.newTup hp (r1.append r2))⟩))
          · subst e
            cases r1
            exact q F _ H (j.pushFz (.tup h2 r2))
          · subst e
            cases r2
            refine q F _ H (j.pushFz (.tup h1 ?_))
            rw [List.append_nil]; exact r1
    · cases h
  · cases h

def opSub : Op2
  | .int i, .int j => some (.fz (.int (i - j)))
  | _, _ => none
theorem opSub_ok : OpOk B X (binaryOp .Sub) opSub := by
  refine ⟨_, op_sub, fun F pa s σ T H Q v w dx dy z j hx hy h q => ?_⟩
  unfold opSub at h
  split at h
  · cases h; cases hx; cases hy
    exact ⟨_, _, rfl, rfl, q F _ H (j.pushFz (.int _))⟩
  · cases h

/-- below 2 ^ 64 -/
def small (i : Int) : Bool := decide (-18446744073709551616 < i) && decide (i < 18446744073709551616)
theorem small_iff {i : Int} (h : small i = true) : -(2 ^ 64) < i ∧ i < 2 ^ 64 := by
  simp only [small, Bool.and_eq_true, decide_eq_true_eq] at h
  omega
def opMul : Op2
  | .int i, .int j => if small i || small j then some (.fz (.int (i * j))) else none
  | .list xs, .int k => if decide (-1000000 ≤ k) && decide (k ≤ 1000000) && decide (xs.length * k.toNat ≤ lim) then some (.fr (.list (List.replicate k.toNat xs).flatten)) else none
  | _, _ => none
theorem opMul_ok : OpOk B X (binaryOp .Mult) opMul := by
  refine ⟨_, op_mul.or op_rep, fun F pa s σ T H Q v w dx dy z j hx hy h q => ?_⟩
  unfold opMul at h
  split at h
  · split at h
    · rename_i hs
      cases h; cases hx; cases hy
      refine .inl ⟨_, _, rfl, rfl, ?_, q F _ H (j.pushFz (.int _))⟩
      rcases (Bool.or_eq_true _ _).mp hs with hs | hs
      · exact .inl (small_iff hs)
      · exact .inr (small_iff hs)
    · cases h
  · split at h
    · rename_i xs kk hs
      cases h
      simp only [Bool.and_eq_true, decide_eq_true_eq] at hs
      cases hx with
      | lst h1 r1 =>
        cases hy
        exact .inr ⟨_, _, _, rfl, rfl, h1, by omega, by omega, by rw [← r1.length]; exact lim_ok hs.2, fun p hp => q F _ _ (j.made hp (.lst (r1.rep _)))⟩
    · cases h
  · cases h

def opFDiv : Op2
  | .int i, .int j => if decide (0 < j) && small j then some (.fz (.int (i / j))) else none
  | _, _ => none
theorem opFDiv_ok : OpOk B X (binaryOp .FloorDiv) opFDiv := by
  refine ⟨_, op_fdivW, fun F pa s σ T H Q v w dx dy z j hx hy h q => ?_⟩
  unfold opFDiv at h
  split at h
  · split at h
    · rename_i hs
      cases h; cases hx; cases hy
      simp only [Bool.and_eq_true, decide_eq_true_eq] at hs
      have := small_iff hs.2
      exact ⟨_, _, rfl, rfl, wide_div (b := 64) hs.1 (by omega) (by decide) (by decide), q F _ H (j.pushFz (.int _))⟩
    · cases h
  · cases h
def opMod : Op2
  | .int i, .int j => if 0 < j then some (.fz (.int (i % j))) else none
  | _, _ => none
theorem opMod_ok : OpOk B X (binaryOp .Mod) opMod := by
  refine ⟨_, op_mod, fun F pa s σ T H Q v w dx dy z j hx hy h q => ?_⟩
  unfold opMod at h
  split at h
  · split at h
    · rename_i hs
      cases h; cases hx; cases hy
      exact ⟨_, _, rfl, rfl, hs, q F _ H (j.pushFz (.int _))⟩
    · cases h
  · cases h
def opPow : Op2
  | .int i, .int j => if decide (0 ≤ j) && decide (j ≤ 1000) && small i then some (.fz (.int (i ^ j.toNat))) else none
  | _, _ => none
theorem opPow_ok : OpOk B X (binaryOp .Pow) opPow := by
  refine ⟨_, op_pow, fun F pa s σ T H Q v w dx dy z j hx hy h q => ?_⟩
  unfold opPow at h
  split at h
  · split at h
    · rename_i hs
      cases h; cases hx; cases hy
      simp only [Bool.and_eq_true, decide_eq_true_eq] at hs
      have := small_iff hs.2
      exact ⟨_, _, rfl, rfl, ⟨hs.1.1, by omega, by omega⟩, q F _ H (j.pushFz (.int _))⟩
    · cases h
  · cases h
def opBitAnd : Op2
  | .int i, .int j => some (.fz (.int (Builtin.bitAnd i j)))
  | _, _ => none
theorem opBitAnd_ok : OpOk B X (binaryOp .BitAnd) opBitAnd := by
  refine ⟨_, op_and, fun F pa s σ T H Q v w dx dy z j hx hy h q => ?_⟩
  unfold opBitAnd at h
  split at h
  · cases h; cases hx; cases hy
    exact ⟨_, _, rfl, rfl, q F _ H (j.pushFz (.int _))⟩
  · cases h
def opBitXor : Op2
  | .int i, .int j => some (.fz (.int (Builtin.bitXor i j)))
  | _, _ => none
theorem opBitXor_ok : OpOk B X (binaryOp .BitXor) opBitXor := by
  refine ⟨_, op_xor, fun F pa s σ T H Q v w dx dy z j hx hy h q => ?_⟩
  unfold opBitXor at h
  split at h
  · cases h; cases hx; cases hy
    exact ⟨_, _, rfl, rfl, q F _ H (j.pushFz (.int _))⟩
  · cases h

/-! ### -a -/
abbrev Op1 := PyData → Option Vl
def dOp1 (op : Op1) (fa : DE) : DE := fun s => match dSet fa s with
  | some (x, s1) => match cont s1 x with
    | some dx => (op dx).map fun z => (z, s1)
    | none => none
  | none => none
def opNeg : Op1
  | .int i => some (.fz (.int (-i)))
  | _ => none
variable {a b : Expr} {fa fb : DE} {pos : Pos}
/-- the reading of one operand -/
theorem op1_read {op : Op1} {r : V → Hp → VK → Prop} (hr : ∀ F pa s σ T H Q v dx z, J B F pa s σ T H → B.Top F H dx v → op dx = some z → (∀ F' u H', J B F' pa s σ ((z, u) :: T) H' → Q u H') → r v H Q)
    {F pa s σ T H Q x s'} (j : J B F pa s σ T H) (hf : dOp1 op fa s = some (x, s')) (q : ∀ F' pa' v H', J B F' pa' s' σ ((x, v) :: T) H' → Q v H') : tD B (dSet fa) σ H fun v H1 => r v H1 Q := by
  unfold dOp1 at hf
  split at hf
  · rename_i x1 s1 h1
    split at hf
    · rename_i dx hx
      obtain ⟨z, hz, e⟩ := Option.map_eq_some_iff.mp hf
      cases e
      refine ⟨F, pa, s, T, x1, _, j, h1, fun F1 pa1 v H1 j1 => ?_⟩
      refine hr F1 pa1 _ σ _ H1 Q v dx _ j1 (TOk.top j1 (j1.tmp _ List.mem_cons_self) hx) hz fun F3 u3 H3 j3 => ?_
      exact q F3 pa1 u3 H3 (j3.sub_T drop1)
    · cases hf
  · cases hf
theorem ev_neg (h : EV B X a fa) : EV B X (.UnaryOp .USub a pos) (dOp1 opNeg fa) := by
  refine .of (pe_un un_neg h.set.pe) fun F pa s σ T H Q x s' j hf q => ?_
  refine op1_read (r := rU fun i => .int (-i)) (fun F pa s σ T H Q v dx z j hx h q => ?_) j hf q
  unfold opNeg at h
  split at h
  · cases h; cases hx
    exact ⟨_, rfl, q F _ H (j.pushFz (.int _))⟩
  · cases h

/-! ### comparisons -/
def okEq (d : PyData) : Bool := SeqAt.shaped d
def opEq : Op2 := fun x y => if okEq x && okEq y then some (.fz (.bool (PyData.eqv x y))) else none
def opNe : Op2 := fun x y => if okEq x && okEq y then some (.fz (.bool (!PyData.eqv x y))) else none
theorem opEq_ok (ft : Fit B X k) : OpOk B X (compareOp .Eq) opEq := by
  refine ⟨_, op_eqD ft.room.r.units, fun F pa s σ T H Q v w dx dy z j hx hy h q => ?_⟩
  unfold opEq at h
  split at h
  · rename_i hs
    cases h
    obtain ⟨h1, h2⟩ := (Bool.and_eq_true _ _).mp hs
    rw [ft.kk]
    exact ⟨_, _, (hx.rep j.sub).dp (shaped_lay h1), (hy.rep j.sub).dp (shaped_lay h2), h1, h2, q F _ H (j.pushFz (.bl _))⟩
  · cases h
theorem opNe_ok (ft : Fit B X k) : OpOk B X (compareOp .NotEq) opNe := by
  refine ⟨_, op_neD ft.room.r.units, fun F pa s σ T H Q v w dx dy z j hx hy h q => ?_⟩
  unfold opNe at h
  split at h
  · rename_i hs
    cases h
    obtain ⟨h1, h2⟩ := (Bool.and_eq_true _ _).mp hs
    rw [ft.kk]
    exact ⟨_, _, (hx.rep j.sub).dp (shaped_lay h1), (hy.rep j.sub).dp (shaped_lay h2), h1, h2, q F _ H (j.pushFz (.bl _))⟩
  · cases h
def opLt : Op2
  | .int i, .int j => some (.fz (.bool (decide (i < j))))
  | _, _ => none
def opLe : Op2
  | .int i, .int j => some (.fz (.bool (decide (i ≤ j))))
  | _, _ => none
def opGt : Op2
  | .int i, .int j => some (.fz (.bool (decide (j < i))))
  | _, _ => none
def opGe : Op2
  | .int i, .int j => some (.fz (.bool (decide (j ≤ i))))
  | _, _ => none
theorem opLt_ok : OpOk B X (compareOp .Lt) opLt := by
  refine ⟨_, op_lt, fun F pa s σ T H Q v w dx dy z j hx hy h q => ?_⟩
  unfold opLt at h
  split at h
  · cases h; cases hx; cases hy
    exact ⟨_, _, rfl, rfl, q F _ H (j.pushFz (.bl _))⟩
  · cases h
theorem opLe_ok : OpOk B X (compareOp .LtE) opLe := by
  refine ⟨_, op_le, fun F pa s σ T H Q v w dx dy z j hx hy h q => ?_⟩
  unfold opLe at h
  split at h
  · cases h; cases hx; cases hy
    exact ⟨_, _, rfl, rfl, q F _ H (j.pushFz (.bl _))⟩
  · cases h
theorem opGt_ok : OpOk B X (compareOp .Gt) opGt := by
  refine ⟨_, op_gt, fun F pa s σ T H Q v w dx dy z j hx hy h q => ?_⟩
  unfold opGt at h
  split at h
  · cases h; cases hx; cases hy
    exact ⟨_, _, rfl, rfl, q F _ H (j.pushFz (.bl _))⟩
  · cases h
theorem opGe_ok : OpOk B X (compareOp .GtE) opGe := by
  refine ⟨_, op_ge, fun F pa s σ T H Q v w dx dy z j hx hy h q => ?_⟩
  unfold opGe at h
  split at h
  · cases h; cases hx; cases hy
    exact ⟨_, _, rfl, rfl, q F _ H (j.pushFz (.bl _))⟩
  · cases h
def isN : PyData → Bool
  | .none => true
  | _ => false
def opIs : Op2
  | x, .none => some (.fz (.bool (isN x)))
  | _, _ => none
def opIsNot : Op2
  | x, .none => some (.fz (.bool (!isN x)))
  | _, _ => none
theorem top_none {F H : Hp} {d : PyData} {v : V} (h : B.Top F H d v) : isN d = decide (v = .non) := by
  cases h <;> simp [isN]
theorem opIs_ok : OpOk B X (compareOp .Is) opIs := by
  refine ⟨_, op_isN, fun F pa s σ T H Q v w dx dy z j hx hy h q => ?_⟩
  unfold opIs at h
  split at h
  · cases h; cases hy
    refine ⟨rfl, ?_⟩
    have := q F _ H (j.pushFz (.bl _))
    rwa [top_none hx] at this
  · cases h
theorem opIsNot_ok : OpOk B X (compareOp .IsNot) opIsNot := by
  refine ⟨_, op_notN, fun F pa s σ T H Q v w dx dy z j hx hy h q => ?_⟩
  unfold opIsNot at h
  split at h
  · cases h; cases hy
    refine ⟨rfl, ?_⟩
    have := q F _ H (j.pushFz (.bl _))
    rwa [top_none hx] at this
  · cases h
end
end Rg
/-! Rg, part G: dicts by values; in; subscripts. -/
namespace Rg
open PySem L2

section
variable {P : Program} {w : World} {K : PySem.W.Frag} {F H : Hp} {h : Heap}
mutual
theorem RepD.nested (ok : HOk P w H h) : ∀ {d : PyData} {v : V} {u : Value} {k : NestedKey}, RepD P w K H d v → RelV v u → keyN d = some k → NestedIs h k u
  | _, _, _, _, .non, r, e => by cases e; cases r; exact .none
  | _, _, _, _, .bl b, r, e => by cases e; cases r; exact .bool rfl
  | _, _, _, _, .int i, r, e => by cases e; obtain ⟨t, rfl⟩ := r; exact .int _ _
  | _, _, _, _, .str i, r, e => by cases e; obtain ⟨t, rfl⟩ := r; exact .text _ _
  | _, _, _, _, .tup q t, r, e => by
    rw [keyN] at e
    obtain ⟨ks, h1, h2⟩ := Option.map_eq_some_iff.mp e
    subst h2
    cases r
    obtain ⟨_, its, rv, o, ho, hc, n, hd⟩ := ok _ _ q
    exact .tup ho hc hd (RepAll.nested ok t rv h1)
  | _, _, _, _, .lst _ _, _, e => by cases e
  | _, _, _, _, .dK _ _, _, e => by cases e
  | _, _, _, _, .dN _ _ _, _, e => by cases e
theorem RepAll.nested (ok : HOk P w H h) : ∀ {ds : List PyData} {vs : List V} {us : List Value} {ks : List NestedKey}, RepAll P w K H ds vs → Vals vs us → keyNs ds = some ks → NestedAll h ks us
  | _, _, _, _, .nil, .nil, e => by cases e; exact .nil
  | _, _, _, _, .cons a t, .cons r rr, e => by
    rw [keyNs] at e
    split at e
    · rename_i k ks h1 h2
      cases e
      exact .cons (RepD.nested ok a r h1) (RepAll.nested ok t rr h2)
    · cases e
end
mutual
theorem keyN_depth : ∀ {d : PyData} {k : NestedKey}, keyN d = some k → k.depth = d.depth
  | .none, _, e | .bool _, _, e | .int _, _, e | .str _, _, e => by cases e; rfl
  | .tuple ds, _, e => by
    rw [keyN] at e
    obtain ⟨ks, h1, h2⟩ := Option.map_eq_some_iff.mp e
    subst h2
    rw [NestedKey.depth, PyData.depth, keyNs_depth h1]
  | .list _, _, e | .dict _, _, e => by cases e
theorem keyNs_depth : ∀ {ds : List PyData} {ks : List NestedKey}, keyNs ds = some ks → NestedKey.depthAll ks = PyData.depthAll ds
  | [], _, e => by cases e; rfl
  | d :: ds, _, e => by
    rw [keyNs] at e
    split at e
    · rename_i k ks h1 h2
      cases e
      rw [NestedKey.depthAll, PyData.depthAll, keyN_depth h1, keyNs_depth h2]
    · cases e
end

/-- a key that a dict takes -/
def kOk (d : PyData) : Bool := keyOk d && decide (d.depth ≤ 8)
def isTup : PyData → Bool
  | .tuple _ => true
  | _ => false
/-- of the kind of the dict's keys -/
def kind (ps : List (PyData × PyData)) (k : PyData) : Bool := match ps with
  | [] => true
  | (a, _) :: _ => isTup a == isTup k

theorem keyK_of {d : PyData} (h : keyOk d = true) (t : isTup d = false) : ∃ y, keyK d = some y := by
  cases d <;> simp_all [keyOk, isTup, keyK]
theorem rep_key {d : PyData} {y : Key} {v : V} (e : keyK d = some y) (r : RepD P w K F d v) : v = kV y := by
  cases r <;> simp_all [keyK]
  all_goals (subst e; rfl)
theorem rep_tup {d : PyData} {v : V} (t : isTup d = true) (r : RepD P w K F d v) : ∃ a, v = .ref a := by
  cases r <;> simp_all [isTup]
theorem keyOk_tup {d : PyData} {a : Addr} (h : keyOk d = true) (r : RepD P w K F d (.ref a)) : isTup d = true := by
  cases r <;> simp_all [isTup, keyOk]

theorem RepK.look {k : PyData} {y : Key} (e : keyK k = some y) : ∀ {ps : List (PyData × PyData)} {kvs : List (Key × V)}, RepK P w K F ps kvs →
    (∀ d, dlook ps k = some d → ∃ v, valV kvs y = some v ∧ RepD P w K F d v) ∧ (dlook ps k = none → valV kvs y = none)
  | _, _, .nil => ⟨fun _ q => (nomatch q), fun _ => rfl⟩
  | (a, d) :: ps, (z, v) :: kvs, .cons e' r t => by
    have ih := t.look e
    unfold dlook
    by_cases q : a = k
    · have hz : z = y := (keyK_iff e' e).mp q
      rw [(deq_iff a k).mpr q]
      refine ⟨fun d' h => ?_, fun h => nomatch h⟩
      cases h
      exact ⟨v, valV_pos (p := (z, v)) hz, r⟩
    · have hz : ¬ z = y := fun z' => q ((keyK_iff e' e).mpr z')
      rw [deq_ne q]
      have e2 : valV ((z, v) :: kvs) y = valV kvs y := valV_neg (p := (z, v)) hz
      rw [e2]
      exact ih
theorem RepN.look {k : PyData} {y : NestedKey} (ok : keyOk k = true) (e : keyN k = some y) : ∀ {ps : List (PyData × PyData)} {xs : List (NestedKey × Addr × Value)}, RepN P w K F ps xs →
    (∀ d, dlook ps k = some d → ∃ p v, atKey xs y = some p ∧ RelV v p.2 ∧ RepD P w K F d v) ∧ (dlook ps k = none → atKey xs y = none)
  | _, _, .nil => ⟨fun _ q => (nomatch q), fun _ => rfl⟩
  | (a, d) :: ps, (z, b, u) :: xs, .cons ok' e' _ _ hr r t => by
    have ih := t.look ok e
    unfold dlook
    by_cases q : a = k
    · subst q
      rw [e] at e'
      cases e'
      rw [deq_self]
      refine ⟨fun d' h => ?_, fun h => nomatch h⟩
      cases h
      exact ⟨(b, u), _, by simp [atKey], hr, r⟩
    · have hz : ¬ z = y := fun z' => q (keyN_inj ok' ok e' (z' ▸ e))
      rw [deq_ne q]
      have e2 : atKey ((z, b, u) :: xs) y = atKey xs y := by simp [atKey, List.find?_cons, hz]
      rw [e2]
      exact ih
theorem RepN.isOk (ok : HOk P w H h) : ∀ {ps : List (PyData × PyData)} {xs : List (NestedKey × Addr × Value)}, RepN P w K H ps xs → ∀ x ∈ xs, (nestedKind P w).is h x.1 x.2.1
  | _, _, .nil, x, hx => by cases hx
  | _, _, .cons _ e hd hk _ _ t, x, hx => by
    rcases List.mem_cons.mp hx with rfl | hx
    · exact ⟨hk.nested ok rfl e, hd⟩
    · exact t.isOk ok x hx
theorem dictOfH_of (ok : HOk P w H h) {a : Addr} {xs : List (NestedKey × Addr × Value)} {ps : List (PyData × PyData)} {n : Nat} (e : H a = some (dN P w a xs n)) (r : RepN P w K H ps xs) :
    (a == sysModules) = false ∧ xs.length ≤ sizeLine ∧ h.DictOfH (nestedKind P w) a xs := by
  obtain ⟨⟨h1, h2, h3, o, es, h4, h5, h6, h7⟩, _⟩ := ok a _ e
  exact ⟨h1, h2, o, es, n, h4, h5, h6, h7, r.isOk ok, h3⟩
/-- an empty dict is one of any kind of keys -/
theorem dictOfH_nil (ok : HOk P w H h) {a : Addr} (e : H a = some (.dK [])) : (a == sysModules) = false ∧ h.DictOfH (nestedKind P w) a [] := by
  obtain ⟨_, h1, vs, r, o, es, ep, h4, h5, h6, _, h7, _⟩ := ok a _ e
  cases r
  have : es.toList = [] := by cases hE : es.toList with
    | nil => rfl
    | cons a l => rw [hE] at h7; cases h7
  exact ⟨h1, o, es, ep, h4, h5, h6, this, (fun _ hx => nomatch hx), List.nodup_nil⟩
theorem RepD.nkey (ok : HOk P w H h) {d : PyData} {b : Addr} (hk : kOk d = true) (r : RepD P w K H d (.ref b)) : ∃ y, keyN d = some y ∧ keyOk d = true ∧ (nestedKind P w).is h y b := by
  simp only [kOk, Bool.and_eq_true, decide_eq_true_eq] at hk
  obtain ⟨y, e⟩ := keyN_some hk.1
  exact ⟨y, e, hk.1, r.nested ok rfl e, by rw [keyN_depth e]; exact hk.2⟩
/-- what the dict at a holds at the key y -/
inductive NGet (P : Program) (w : World) (K : PySem.W.Frag) (H : Hp) (a : Addr) (y : V) (r : Option V) : Prop
  | k : DGet H a y r → NGet P w K H a y r
  | n {xs : List (NestedKey × Addr × Value)} {ps : List (PyData × PyData)} {k : PyData} {z : NestedKey} {b : Addr} {n : Nat} : H a = some (dN P w a xs n) → RepN P w K H ps xs → y = .ref b → RepD P w K H k (.ref b) → kOk k = true → keyN k = some z →
      RelO r ((atKey xs z).map (·.2)) → NGet P w K H a y r
  | e {k : PyData} {b : Addr} : H a = some (.dK []) → y = .ref b → RepD P w K H k (.ref b) → kOk k = true → r = none → NGet P w K H a y r
theorem keyK_notTup {d : PyData} {z : Key} (e : keyK d = some z) : isTup d = false := by cases d <;> simp_all [keyK, isTup]
theorem top_get {ps : List (PyData × PyData)} {k : PyData} {x y : V} (s : Same F H) (r : Top P w K F H (.dict ps) x) (rk : RepD P w K H k y) (hk : kOk k = true) (hd : kind ps k = true) :
    ∃ a r, x = .ref a ∧ NGet P w K H a y r ∧ (∀ d, dlook ps k = some d → ∃ v, r = some v ∧ RepD P w K F d v) ∧ (dlook ps k = none → r = none) := by
  have ok : keyOk k = true := ((Bool.and_eq_true _ _).mp hk).1
  cases r with
  | dK e r =>
    cases t : isTup k with
    | false =>
      obtain ⟨z, hz⟩ := keyK_of ok t
      have hy := rep_key hz rk
      subst hy
      obtain ⟨l1, l2⟩ := r.look hz
      exact ⟨_, _, rfl, .k (.k e), l1, l2⟩
    | true =>
      obtain ⟨b, hb⟩ := rep_tup t rk
      subst hb
      cases r with
      | nil => exact ⟨_, none, rfl, .e e rfl rk hk rfl, fun _ q => (nomatch q), fun _ => rfl⟩
      | cons e1 _ _ =>
        unfold kind at hd
        simp [t, keyK_notTup e1] at hd
  | dN e n r =>
    cases r with
    | nil => exact absurd rfl n
    | cons o1 e1 d1 k1 r1 r2 t1 =>
      have ht : isTup k = true := by
        have hd' : (isTup _ == isTup k) = true := hd
        rw [keyOk_tup o1 k1] at hd'
        simpa using hd'.symm
      obtain ⟨b, hb⟩ := rep_tup ht rk
      subst hb
      obtain ⟨z, hz⟩ := keyN_some ok
      have r' : RepN P w K F ((_, _) :: _) ((_, _, _) :: _) := .cons o1 e1 d1 k1 r1 r2 t1
      obtain ⟨l1, l2⟩ := r'.look ok hz
      cases hl : dlook ((_, _) :: _) k with
      | none =>
        refine ⟨_, none, rfl, .n e (r'.mono s) rfl rk hk hz ?_, fun _ q => (nomatch q), fun _ => rfl⟩
        rw [l2 hl]; trivial
      | some d =>
        obtain ⟨p, v, h1, h2, h3⟩ := l1 d hl
        refine ⟨_, some v, rfl, .n e (r'.mono s) rfl rk hk hz ?_, fun d' q => ?_, fun q => nomatch q⟩
        · rw [h1]; exact h2
        · cases q; exact ⟨v, rfl, h3⟩
end

section
variable {B : Bs} {X : Cx} {k : Nat}
theorem nroom {A : Around} (h : A.units + 64 < cLine) {P : Program} {w : World} : (nestedKind P w).room A.in1 := by
  show A.units + 1 + 8 < cLine
  omega
section
variable {pins : List (Addr × Obj)} {σ : St} {H : Hp} {s : Shared} {a : Addr} {y : V} {u : Value} {o : Option V} {A : Around} {E : Value → Shared → Prop}
theorem n_in {Q : Value → Shared → Prop} (hu : A.units + 64 < cLine) (I : Inv X pins σ H s) (g : NGet X.prog X.w X.K H a y o) (ry : RelV y u) (h : ∀ s', Inv X pins σ H s' → Q (.bool o.isSome) s') :
    wpAny (model X.prog X.w) A (compareOp .In u (.ref a)) Q E s := by
  cases g with
  | k g => exact d_in (by omega) I g ry h
  | n e r ey rk ok ez ro =>
    subst ey
    cases ry
    obtain ⟨z, ez', _, hz⟩ := rk.nkey I.hok ok
    rw [ez] at ez'; cases ez'
    obtain ⟨h1, h2, h3⟩ := dictOfH_of I.hok e r
    refine wpAny_in_heap (nroom hu) hz h1 h3 ?_
    have := ro.isSome_eq
    rw [Option.isSome_map] at this
    rw [← this]
    exact h _ (I.tok _)
  | e e ey rk ok er =>
    subst ey er
    cases ry
    obtain ⟨z, ez, ok', hz⟩ := rk.nkey I.hok ok
    obtain ⟨h1, h3⟩ := dictOfH_nil I.hok e
    exact wpAny_in_heap (nroom hu) hz h1 h3 (h _ (I.tok _))
theorem n_notIn {Q : Value → Shared → Prop} (hu : A.units + 64 < cLine) (I : Inv X pins σ H s) (g : NGet X.prog X.w X.K H a y o) (ry : RelV y u) (h : ∀ s', Inv X pins σ H s' → Q (.bool (!o.isSome)) s') :
    wpAny (model X.prog X.w) A (compareOp .NotIn u (.ref a)) Q E s := by
  cases g with
  | k g => exact d_notIn (by omega) I g ry h
  | n e r ey rk ok ez ro =>
    subst ey
    cases ry
    obtain ⟨z, ez', _, hz⟩ := rk.nkey I.hok ok
    rw [ez] at ez'; cases ez'
    obtain ⟨h1, h2, h3⟩ := dictOfH_of I.hok e r
    refine PyProof.Rows.wpAny_notIn_heap (nroom hu) hz h1 h3 ?_
    have := ro.isSome_eq
    rw [Option.isSome_map] at this
    rw [← this]
    exact h _ (I.tok _)
  | e e ey rk ok er =>
    subst ey er
    cases ry
    obtain ⟨z, ez, ok', hz⟩ := rk.nkey I.hok ok
    obtain ⟨h1, h3⟩ := dictOfH_nil I.hok e
    exact PyProof.Rows.wpAny_notIn_heap (nroom hu) hz h1 h3 (h _ (I.tok _))
theorem n_getItem {v : V} {Q : Value → Shared → Prop} (hu : A.units + 64 < cLine) (I : Inv X pins σ H s) (g : NGet X.prog X.w X.K H a y (some v)) (ry : RelV y u) (h : ∀ w' s', Inv X pins σ H s' → RelV v w' → Q w' s') :
    wpAny (model X.prog X.w) A (getItem (.ref a) u) Q E s := by
  cases g with
  | k g => exact d_getItem (by omega) I g ry h
  | n e r ey rk ok ez ro =>
    subst ey
    cases ry
    obtain ⟨z, ez', _, hz⟩ := rk.nkey I.hok ok
    rw [ez] at ez'; cases ez'
    obtain ⟨h1, h2, h3⟩ := dictOfH_of I.hok e r
    obtain ⟨w', hw, rw'⟩ := ro.some_of
    obtain ⟨p, hp, hp2⟩ := Option.map_eq_some_iff.mp hw
    refine wpAny_getItem_heap (nroom hu) hz h3 hp ?_
    rw [hp2]
    exact h w' _ (I.tok _) rw'
  | e e ey rk ok er => cases er
theorem n_get2 {d : V} {r : Value} {Q : Value → Shared → Prop} (hu : A.units + 64 < cLine) (I : Inv X pins σ H s) (g : NGet X.prog X.w X.K H a y o) (ry : RelV y u) (rd : RelV d r) (h : ∀ w' s', Inv X pins σ H s' → RelV (o.getD d) w' → Q w' s') :
    wpAny (model X.prog X.w) A (call (.builtin "dict.get") [.ref a, u, r]) Q E s := by
  cases g with
  | k g => exact d_get2 (by omega) I g ry rd h
  | n e rr ey rk ok ez ro =>
    subst ey
    cases ry
    obtain ⟨z, ez', _, hz⟩ := rk.nkey I.hok ok
    rw [ez] at ez'; cases ez'
    obtain ⟨h1, h2, h3⟩ := dictOfH_of I.hok e rr
    exact call_meetsIn PySem.F.slot_dict_get h3.typeIs PySem.F.entry_dict_get (PySem.F.args_dict_get_3 _ _ _) (meetsH_dict_get_default (nestedKind X.prog X.w) a _ h1 r) ⟨nroom hu, _, _, hz, h3, h _ _ (I.tok _) (ro.getD rd)⟩
  | e e ey rk ok er =>
    subst ey er
    cases ry
    obtain ⟨z, ez, ok', hz⟩ := rk.nkey I.hok ok
    obtain ⟨h1, h3⟩ := dictOfH_nil I.hok e
    exact call_meetsIn PySem.F.slot_dict_get h3.typeIs PySem.F.entry_dict_get (PySem.F.args_dict_get_3 _ _ _) (meetsH_dict_get_default (nestedKind X.prog X.w) a _ h1 r) ⟨nroom hu, _, _, hz, h3, h _ _ (I.tok _) rd⟩
theorem n_get1 {Q : Value → Shared → Prop} (hu : A.units + 64 < cLine) (I : Inv X pins σ H s) (g : NGet X.prog X.w X.K H a y o) (ry : RelV y u) (h : ∀ w' s', Inv X pins σ H s' → RelV (o.getD .non) w' → Q w' s') :
    wpAny (model X.prog X.w) A (call (.builtin "dict.get") [.ref a, u]) Q E s := by
  cases g with
  | k g => exact d_get1 (by omega) I g ry h
  | n e rr ey rk ok ez ro =>
    subst ey
    cases ry
    obtain ⟨z, ez', _, hz⟩ := rk.nkey I.hok ok
    rw [ez] at ez'; cases ez'
    obtain ⟨h1, h2, h3⟩ := dictOfH_of I.hok e rr
    exact call_meetsIn PySem.F.slot_dict_get h3.typeIs PySem.F.entry_dict_get (PySem.F.args_dict_get_2 _ _) (meetsH_dict_get (nestedKind X.prog X.w) a _ h1) ⟨nroom hu, _, _, hz, h3, h _ _ (I.tok _) (ro.getD rfl)⟩
  | e e ey rk ok er =>
    subst ey er
    cases ry
    obtain ⟨z, ez, ok', hz⟩ := rk.nkey I.hok ok
    obtain ⟨h1, h3⟩ := dictOfH_nil I.hok e
    exact call_meetsIn PySem.F.slot_dict_get h3.typeIs PySem.F.entry_dict_get (PySem.F.args_dict_get_2 _ _) (meetsH_dict_get (nestedKind X.prog X.w) a _ h1) ⟨nroom hu, _, _, hz, h3, h _ _ (I.tok _) rfl⟩
theorem NGet.typeIs (I : Inv X pins σ H s) (g : NGet X.prog X.w X.K H a y o) : s.TypeIs (.ref a) "dict" := by
  cases g with
  | k g => exact dict_typeIs I g
  | n e rr ey rk ok ez ro => exact (dictOfH_of I.hok e rr).2.2.typeIs
  | e e ey rk ok er => exact (dictOfH_nil I.hok e).2.typeIs
end
/-! ### in -/
def rInDict (P : Program) (w : World) (K : PySem.W.Frag) (neg : Bool) : R2 := fun y x H Q => ∃ a o, x = .ref a ∧ NGet P w K H a y o ∧ Q (.bl (if neg then !o.isSome else o.isSome)) H
theorem op_inDict (hu : X.A.units + 64 < cLine) : OpR X (compareOp .In) (rInDict X.prog X.w X.K false) := by
  intro pins s σ H y x u v Q I ry rx h
  obtain ⟨a, o, rfl, g, q⟩ := h
  cases rx
  exact n_in hu I g ry fun s' I' => ⟨.bl _, H, I', rfl, q⟩
theorem op_notInDict (hu : X.A.units + 64 < cLine) : OpR X (compareOp .NotIn) (rInDict X.prog X.w X.K true) := by
  intro pins s σ H y x u v Q I ry rx h
  obtain ⟨a, o, rfl, g, q⟩ := h
  cases rx
  exact n_notIn hu I g ry fun s' I' => ⟨.bl _, H, I', rfl, q⟩
def rInTupD (K : PySem.W.Frag) (neg : Bool) : R2 := fun x y H Q => ∃ d ds, Dp K H x d ∧ Dp K H y (.tuple ds) ∧ SeqAt.shaped d = true ∧ SeqAt.shaped (.tuple ds) = true ∧ Q (.bl (if neg then !ds.any fun z => PyData.eqv z d else ds.any fun z => PyData.eqv z d)) H
theorem op_inTup (hu : X.A.units + 65 < cLine) : OpR X (compareOp .In) (rInTupD X.K false) := by
  intro pins s σ H x y v u Q I rx ry h
  obtain ⟨d, ds, hd, he, sd, se, q⟩ := h
  obtain ⟨as, r1⟩ := Dp.reads I d x v hd rx
  obtain ⟨bs, r2⟩ := Dp.reads I (.tuple ds) y u he ry
  exact SeqAt.in_tuple_reads r2 r1 (by simpa [PyData.canLay0] using SeqAt.canLay_of_shaped se) (SeqAt.canLay_of_shaped sd) (PyProof.Rows.room_in_shaped sd hu) ⟨.bl _, H, I, rfl, q⟩
theorem op_notInTup (hu : X.A.units + 65 < cLine) : OpR X (compareOp .NotIn) (rInTupD X.K true) := by
  intro pins s σ H x y v u Q I rx ry h
  obtain ⟨d, ds, hd, he, sd, se, q⟩ := h
  obtain ⟨as, r1⟩ := Dp.reads I d x v hd rx
  obtain ⟨bs, r2⟩ := Dp.reads I (.tuple ds) y u he ry
  exact SeqAt.notIn_tuple_reads r2 r1 (by simpa [PyData.canLay0] using SeqAt.canLay_of_shaped se) (SeqAt.canLay_of_shaped sd) (PyProof.Rows.room_in_shaped sd hu) ⟨.bl _, H, I, rfl, q⟩
def opIn : Op2
  | x, .dict ps => if kOk x && kind ps x then some (.fz (.bool (dlook ps x).isSome)) else none
  | x, .list ds => if okEq x && okEq (.list ds) then some (.fz (.bool (ds.any fun z => PyData.eqv z x))) else none
  | x, .tuple ds => if okEq x && okEq (.tuple ds) then some (.fz (.bool (ds.any fun z => PyData.eqv z x))) else none
  | _, _ => none
def opNotIn : Op2
  | x, .dict ps => if kOk x && kind ps x then some (.fz (.bool (!(dlook ps x).isSome))) else none
  | x, .list ds => if okEq x && okEq (.list ds) then some (.fz (.bool (!ds.any fun z => PyData.eqv z x))) else none
  | x, .tuple ds => if okEq x && okEq (.tuple ds) then some (.fz (.bool (!ds.any fun z => PyData.eqv z x))) else none
  | _, _ => none
theorem isSome_of {P : Program} {w : World} {K : PySem.W.Frag} {F : Hp} {o : Option PyData} {r : Option V} (l1 : ∀ d, o = some d → ∃ v, r = some v ∧ RepD P w K F d v) (l2 : o = none → r = none) : r.isSome = o.isSome := by
  cases o with
  | none => rw [l2 rfl]; rfl
  | some d => obtain ⟨v, h, _⟩ := l1 d rfl; rw [h]; rfl
theorem units65 (ft : Fit B X k) : X.A.units + 65 < cLine := by
  have := ft.room.r.un
  omega
theorem opIn_ok (ft : Fit B X k) : OpOk B X (compareOp .In) opIn := by
  refine ⟨_, (op_inDict ft.room.r.units).or ((op_inD (units65 ft)).or (op_inTup (units65 ft))), fun F pa s σ T H Q v w dx dy z j hx hy h q => ?_⟩
  rw [ft.p, ft.w, ft.kk]
  unfold opIn at h
  split at h
  · split at h
    · rename_i hs
      cases h
      obtain ⟨h1, h2⟩ := (Bool.and_eq_true _ _).mp hs
      obtain ⟨a, r, rfl, g, l1, l2⟩ := top_get j.sub hy (hx.rep j.sub) h1 h2
      refine .inl ⟨a, r, rfl, g, ?_⟩
      have q' := q F _ H (j.pushFz (.bl _))
      rw [← isSome_of l1 l2] at q'
      exact q'
    · cases h
  · split at h
    · rename_i hs
      cases h
      obtain ⟨h1, h2⟩ := (Bool.and_eq_true _ _).mp hs
      exact .inr (.inl ⟨_, _, (hx.rep j.sub).dp (shaped_lay h1), (hy.rep j.sub).dp (shaped_lay h2), h1, h2, q F _ H (j.pushFz (.bl _))⟩)
    · cases h
  · split at h
    · rename_i hs
      cases h
      obtain ⟨h1, h2⟩ := (Bool.and_eq_true _ _).mp hs
      exact .inr (.inr ⟨_, _, (hx.rep j.sub).dp (shaped_lay h1), (hy.rep j.sub).dp (shaped_lay h2), h1, h2, q F _ H (j.pushFz (.bl _))⟩)
    · cases h
  · cases h
theorem opNotIn_ok (ft : Fit B X k) : OpOk B X (compareOp .NotIn) opNotIn := by
  refine ⟨_, (op_notInDict ft.room.r.units).or ((op_notInD (units65 ft)).or (op_notInTup (units65 ft))), fun F pa s σ T H Q v w dx dy z j hx hy h q => ?_⟩
  rw [ft.p, ft.w, ft.kk]
  unfold opNotIn at h
  split at h
  · split at h
    · rename_i hs
      cases h
      obtain ⟨h1, h2⟩ := (Bool.and_eq_true _ _).mp hs
      obtain ⟨a, r, rfl, g, l1, l2⟩ := top_get j.sub hy (hx.rep j.sub) h1 h2
      refine .inl ⟨a, r, rfl, g, ?_⟩
      have q' := q F _ H (j.pushFz (.bl _))
      rw [← isSome_of l1 l2] at q'
      exact q'
    · cases h
  · split at h
    · rename_i hs
      cases h
      obtain ⟨h1, h2⟩ := (Bool.and_eq_true _ _).mp hs
      exact .inr (.inl ⟨_, _, (hx.rep j.sub).dp (shaped_lay h1), (hy.rep j.sub).dp (shaped_lay h2), h1, h2, q F _ H (j.pushFz (.bl _))⟩)
    · cases h
  · split at h
    · rename_i hs
      cases h
      obtain ⟨h1, h2⟩ := (Bool.and_eq_true _ _).mp hs
      exact .inr (.inr ⟨_, _, (hx.rep j.sub).dp (shaped_lay h1), (hy.rep j.sub).dp (shaped_lay h2), h1, h2, q F _ H (j.pushFz (.bl _))⟩)
    · cases h
  · cases h

/-! ### subscripts -/
def rIxDict (P : Program) (w : World) (K : PySem.W.Frag) : R2 := fun x y H Q => ∃ a v, x = .ref a ∧ NGet P w K H a y (some v) ∧ Q v H
theorem ix_dict (hu : X.A.units + 64 < cLine) : IxR X (rIxDict X.prog X.w X.K) := by
  intro value slice pins s σ H x y v u Q I rx ry h hs
  obtain ⟨a, z, rfl, g, q⟩ := h
  cases rx
  have hT : s.TypeIs (.ref a) "dict" := g.typeIs I
  unfold PyProof.Rows.subscriptTail
  refine wpAny_bind ?_
  rw [getitemInPython_of_ne hT.not_modules]
  refine wpAny_bind (wpAny_specialOf hT PySem.F.slot_dict_getitem.lookup ?_)
  have fin : wpAny (model X.prog X.w) X.A (subscripted slice false (.ref a) u) (fun r s₃ => wpAny (model X.prog X.w) X.A (letTemporaryGo value (.ref a) r >>= fun _ => pure r) (EP X pins σ Q) X.xe s₃) X.xe s := by
    rw [hs]
    exact wpAny_operating (n_getItem hu I g ry fun r s₃ I3 rv => wpAny_bind (wpAny_letTemporaryGo (wpAny_pure ⟨z, H, I3, rv, q⟩)))
  first
    | exact wpAny_pure (wpAny_bind fin)
    | exact wpAny_bind (wpAny_pure (wpAny_bind fin))
    | exact wpAny_bind fin
theorem atI_rep {P : Program} {w : World} {K : PySem.W.Frag} {F : Hp} {ds : List PyData} {vs : List V} (r : RepAll P w K F ds vs) {i : Int} {d : PyData} (h : atI ds i = some d) : ∃ v, atI vs i = some v ∧ RepD P w K F d v := by
  unfold atI at h ⊢
  rw [← r.length]
  obtain ⟨j, h1, h2⟩ := Option.bind_eq_some_iff.mp h
  obtain ⟨v, h3, h4⟩ := r.get h2
  exact ⟨v, by rw [h1]; exact h3, h4⟩
def opIx : Op2
  | .list ds, .int i => (atI ds i).map .fz
  | .tuple ds, .int i => (atI ds i).map .fz
  | .dict ps, k => if kOk k && kind ps k then (dlook ps k).map .fz else none
  | _, _ => none
theorem ix_ok (ft : Fit B X k) : ∃ r : R2, IxR X r ∧ ∀ F pa s σ T H Q v w dx dy z, J B F pa s σ T H → B.Top F H dx v → B.Top F H dy w → opIx dx dy = some z → (∀ F' u H', J B F' pa s σ ((z, u) :: T) H' → Q u H') → r v w H Q := by
  refine ⟨_, ix_list.or (ix_tup.or (ix_dict ft.room.r.units)), fun F pa s σ T H Q v w dx dy z j hx hy h q => ?_⟩
  rw [ft.p, ft.w, ft.kk]
  unfold opIx at h
  split at h
  · obtain ⟨d, h1, h2⟩ := Option.map_eq_some_iff.mp h
    subst h2
    cases hy
    cases hx with
    | lst e r =>
      obtain ⟨u, h3, h4⟩ := atI_rep r h1
      exact .inl ⟨_, _, _, _, rfl, rfl, .of e, h3, q F _ H (j.pushFz h4)⟩
  · obtain ⟨d, h1, h2⟩ := Option.map_eq_some_iff.mp h
    subst h2
    cases hy
    cases hx with
    | tup e r =>
      obtain ⟨u, h3, h4⟩ := atI_rep r h1
      exact .inr (.inl ⟨_, _, _, _, rfl, rfl, .of (j.sub _ _ e), h3, q F _ H (j.pushFz h4)⟩)
  · split at h
    · rename_i hs
      obtain ⟨d, h1, h2⟩ := Option.map_eq_some_iff.mp h
      subst h2
      obtain ⟨h3, h4⟩ := (Bool.and_eq_true _ _).mp hs
      obtain ⟨a, r, rfl, g, l1, l2⟩ := top_get j.sub hx (hy.rep j.sub) h3 h4
      obtain ⟨u, h5, h6⟩ := l1 d h1
      subst h5
      exact .inr (.inr ⟨a, u, rfl, g, q F _ H (j.pushFz h6)⟩)
    · cases h
  · cases h
variable {a b : Expr} {fa fb : DE} {pos : Pos}
theorem ev_ix (ft : Fit B X k) (ha : EV B X a fa) (hb : EV B X b fb) (hs : PlainIx b) : EV B X (.Subscript a b pos) (dOp opIx fa fb) := by
  obtain ⟨r, h1, h2⟩ := ix_ok ft
  exact .of (pe_ix h1 ha.set.pe hb.set.pe hs) fun F pa s σ T H Q x s' j hf q => op_read (f := fun _ _ => getItem .none .none) h2 j hf q
end
end Rg
/-! Rg, part H: displays, chains, calls of built-ins by values. -/
namespace Rg
open PySem L2

section
variable {B : Bs} {X : Cx} {k : Nat} {F : Hp} {pa : Option (Addr × Addr)} {s : S} {σ : St} {T : List (Vl × V)} {H : Hp}

theorem onT_sub : ∀ (xs : List Vl) (vs : List V) (T : List (Vl × V)), T.Sublist (onT xs vs T)
  | [], _, T => .refl T
  | _ :: _, [], T => .refl T
  | x :: xs, v :: vs, T => .trans (.cons _ (.refl T)) (onT_sub xs vs _)
theorem onT_mem : ∀ (xs : List Vl) (vs : List V) (T : List (Vl × V)), ∀ p ∈ xs.zip vs, p ∈ onT xs vs T
  | [], _, T, p, h => by cases h
  | _ :: _, [], T, p, h => by cases h
  | x :: xs, v :: vs, T, p, h => by
    rcases List.mem_cons.mp h with rfl | h
    · exact (onT_sub xs vs _).subset List.mem_cons_self
    · exact onT_mem xs vs _ p h

/-- all are frozen -/
def frzAll (s : S) : List Vl → Option (List PyData × S)
  | [] => some ([], s)
  | x :: xs => if x.isFr then none else match frz s x with
    | some (d, s1) => match frzAll s1 xs with
      | some (ds, s2) => some (d :: ds, s2)
      | none => none
    | none => none
theorem J.frz1 {x : Vl} {v : V} {d : PyData} {s' : S} (j : J B F pa s σ T H) (hx : (x, v) ∈ T) (hf : x.isFr = false) (h : Rg.frz s x = some (d, s')) : ∃ F', Same F F' ∧ J B F' pa s' σ T H ∧ B.Rep F' d v := by
  have tx := j.tmp _ hx
  cases x with
  | fz d' => cases h; exact ⟨F, .refl F, j, tx⟩
  | fr d' => cases hf
  | pt => cases h
  | gr => cases h
  | ob o => cases h
  | sl i =>
    obtain ⟨⟨d', h1⟩, h2⟩ := tx
    rcases h1 with h1 | h1
    · have h1' := h1
      unfold ownAt at h1'
      simp only [Rg.frz, h1'] at h
      cases h
      obtain ⟨F', sf, j'⟩ := j.frzSl h1
      obtain ⟨u, h3, h4⟩ := j'.fzs i d (put_self h1.lt)
      rw [h2.inj h3]
      exact ⟨F', sf, j', h4⟩
    · have h1' := h1
      unfold fzAt at h1'
      simp only [Rg.frz, h1'] at h
      cases h
      obtain ⟨u, h3, h4⟩ := j.fzs i d h1
      rw [h2.inj h3]
      exact ⟨F, .refl F, j, h4⟩
theorem J.frzAll : ∀ {xs : List Vl} {vs : List V} {F : Hp} {s s' : S} {ds : List PyData}, xs.length = vs.length → (∀ p ∈ xs.zip vs, p ∈ T) → J B F pa s σ T H → frzAll s xs = some (ds, s') → ∃ F', Same F F' ∧ J B F' pa s' σ T H ∧ RepAll B.P B.w B.K F' ds vs
  | [], [], F, s, s', ds, _, _, j, h => by cases h; exact ⟨F, .refl F, j, .nil⟩
  | [], _ :: _, _, _, _, _, e, _, _, _ => by cases e
  | _ :: _, [], _, _, _, _, e, _, _, _ => by cases e
  | x :: xs, v :: vs, F, s, s', ds, e, hm, j, h => by
    unfold Rg.frzAll at h
    split at h
    · cases h
    · rename_i hf
      split at h
      · rename_i d s1 h1
        split at h
        · rename_i ds' s2 h2
          cases h
          obtain ⟨F1, sf1, j1, r1⟩ := j.frz1 (hm _ List.mem_cons_self) (by simpa using hf) h1
          obtain ⟨F2, sf2, j2, r2⟩ := J.frzAll (by simpa using e) (fun p hp => hm p (List.mem_cons_of_mem _ hp)) j1 h2
          exact ⟨F2, sf1.trans sf2, j2, .cons (r1.mono sf2) r2⟩
        · cases h
      · cases h

/-- the new object on top is changed -/
theorem J.swapTop {d d' : PyData} {p : Addr} {o' : HO} (j : J B F pa s σ ((.fr d, .ref p) :: T) H) (c' : Cell B.P B.w B.K F d' p o') : J B F pa s σ ((.fr d', .ref p) :: T) (upd H p o') := by
  obtain ⟨a', e, x⟩ := j.tmp _ List.mem_cons_self
  cases e
  have off : ∀ b u, F b = some u → b ≠ p := fun b u e q => by rw [q, x.f] at e; cases e
  have other : ∀ {e b}, Own B F pa H e b → b ≠ p → Own B F pa (upd H p o') e b := fun y ne => y.mono (.refl F) y.f (upd_ne ne)
  have tp := List.pairwise_cons.mp j.tne
  refine ⟨fun b u e => ?_, fun b u e q => ?_, j.fnew, j.f0, j.pa0, j.len, j.fzs, fun k e q => ?_, j.pts, j.une, fun t ht => ?_, List.pairwise_cons.mpr ⟨fun t ht e e2 => tp.1 t ht rfl e2, tp.2⟩, fun t ht e => ?_, ?_, j.ext⟩
  · rw [upd_ne (off b u e)]; exact j.sub b u e
  · have : b ≠ p := fun z => by rw [z, x.h0] at e; cases e
    rw [upd_ne this]; exact j.keep b u e q
  · obtain ⟨b, h1, h2⟩ := j.own k e q
    exact ⟨b, h1, other h2 fun z => j.tse _ List.mem_cons_self rfl k e q (by rw [← z]; exact h1)⟩
  · rcases List.mem_cons.mp ht with rfl | ht2
    · exact ⟨p, rfl, x.f, x.h0, x.off, o', upd_same, c'⟩
    · have ht' := j.tmp t (List.mem_cons_of_mem _ ht2)
      obtain ⟨y, v⟩ := t
      cases y with
      | fz d => exact ht'
      | fr d2 =>
        obtain ⟨b, h1, h2⟩ := ht'
        exact ⟨b, h1, other h2 fun q => tp.1 _ ht2 rfl rfl (by rw [← q]; exact h1.symm)⟩
      | sl k => exact ht'
      | pt => exact ht'
      | gr => exact ht'
      | ob o => exact ht'
  · rcases List.mem_cons.mp ht with rfl | ht2
    · exact j.tse (.fr d, .ref p) List.mem_cons_self rfl
    · exact j.tse t (List.mem_cons_of_mem _ ht2) e
  · refine j.pot.at' (fun _ _ _ => ⟨rfl, rfl⟩) fun p g e => ?_
    obtain ⟨n1, n2⟩ := x.off p g e
    exact ⟨upd_ne n1.symm, upd_ne n2.symm⟩

/-! ### tuples, lists -/
variable {es : List Expr} {e a b c : Expr} {f fa fb fc : DE} {g : DEs} {pos : Pos}
def dTup (g : DEs) : DE := fun s => match g s with
  | some (xs, s1) => match frzAll s1 xs with
    | some (ds, s2) => if ds.length ≤ lim then some (.fz (.tuple ds), s2) else none
    | none => none
  | none => none
def dLst (g : DEs) : DE := fun s => match g s with
  | some (xs, s1) => match frzAll s1 xs with
    | some (ds, s2) => if ds.length ≤ lim then some (.fr (.list ds), s2) else none
    | none => none
  | none => none
theorem ev_tup {x1} (h : EA B X es g) : EV B X (.Tuple es x1 pos) (dTup g) := by
  refine .of (pe_tup h.pa) fun F pa s σ T H Q x s' j hf q => ?_
  unfold dTup at hf
  split at hf
  · rename_i xs s1 h1
    split at hf
    · rename_i ds s2 h2
      split at hf
      · rename_i hl
        cases hf
        refine ⟨F, pa, s, T, xs, s1, j, h1, fun F1 pa1 vs H1 hlen j1 => ?_⟩
        obtain ⟨F2, sf, j2, r⟩ := j1.frzAll hlen (onT_mem xs vs T) h2
        refine ⟨by rw [← r.length]; exact lim_ok hl, fun p hp => ?_⟩
        exact q _ pa1 _ _ ((j2.sub_T (onT_sub xs vs T)).newTup hp r)
      · cases hf
    · cases hf
  · cases hf
theorem ev_lst (h : EA B X es g) : EV B X (.List es pos) (dLst g) := by
  refine .of (pe_lst h.pa) fun F pa s σ T H Q x s' j hf q => ?_
  unfold dLst at hf
  split at hf
  · rename_i xs s1 h1
    split at hf
    · rename_i ds s2 h2
      split at hf
      · rename_i hl
        cases hf
        refine ⟨F, pa, s, T, xs, s1, j, h1, fun F1 pa1 vs H1 hlen j1 => ?_⟩
        obtain ⟨F2, sf, j2, r⟩ := j1.frzAll hlen (onT_mem xs vs T) h2
        refine ⟨by rw [← r.length]; exact lim_ok hl, fun p hp => ?_⟩
        exact q _ pa1 _ _ ((j2.sub_T (onT_sub xs vs T)).made hp (.lst r))
      · cases hf
    · cases hf
  · cases hf

/-! ### {} and {k: v}, k a tuple -/
theorem ev_dict0 : EV B X (.Dict [] [] pos) (fun s => some (.fr (.dict []), s)) :=
  .of pe_dnewK fun F pa s σ T H Q x s' j hf q => by
    cases hf
    exact fun p hp => q F pa _ _ (j.made hp (.dK .nil))
def tDispN (P : Program) (w : World) (K : PySem.W.Frag) (tk tv : TE) : TE := fun σ H Q => ∀ p, H p = none → tk σ (upd H p (.dK [])) fun x H1 => tv σ H1 fun y H2 => H2 p = some (.dK []) ∧
  ∃ b d z, x = .ref b ∧ RepD P w K H2 d (.ref b) ∧ kOk d = true ∧ keyN d = some z ∧ ∀ u n, RelV y u → Q (.ref p) (upd H2 p (dN P w p [(z, b, u)] n))
theorem nroom' {A : Around} (h : A.units + 64 < cLine) {P : Program} {w : World} : (nestedKind P w).room A := by
  show A.units + 8 < cLine
  omega
theorem dict_pairsX {prog : Program} {w : World} {K : Type} [DecidableEq K] {knd : HeapKind prog w K} {A : Around} {E : Value → Shared → Prop} {s : Shared} {env : Env} {keys : List (Option Expr)} {values : List Expr} {pos : Pos} {pairs : List (Sem Value × Sem Value)} {Q : Value → Shared → Prop} (hu : knd.room A)
    (hshape : (evalEachOpt keys env).zip ((evalEach values env).map fun v => do let x ← v; standAt pos; pure x) = pairs.map fun p => (some p.1, p.2)) (h0 : pairs ≠ []) (hlen : pairs.length ≤ 15)
    (h : wpAny (model prog w) A (evalPairs pairs) (fun vs s₁ => ∃ ps, CarriesH knd s₁.heap vs ps ∧ s₁.heap.DictOfH knd s.heap.objs.size [] ∧
      ∀ h' tk, h'.DictOfH knd s.heap.objs.size (storedAllH [] ps) → Heap.SameBut s.heap.objs.size s₁.heap h' → Q (.ref s.heap.objs.size) { s₁ with heap := h', toks := tk }) E
      { s with heap := s.heap.push { cls := .type "dict", data := .dict #[] } }) :
    wpAny (model prog w) A (eval (.Dict keys values pos) env) Q E s := by
  rw [arm_eval_Dict, hshape, dictDisplay_pairs pairs h0 (by omega)]
  exact wpAny_bind (wpAny_standAt (wpAny_bind (wpAny_subDictH (knd := knd) (Q := fun d s' => wpAny (model prog w) A (pure (Value.ref d)) Q E s') hu hlen
    (wpAny_mono h (fun vs s₁ h₁ => by obtain ⟨ps, hc, hm, hq⟩ := h₁; exact ⟨ps, hc, hm, fun h' tk a b => wpAny_pure (hq h' tk a b)⟩) fun _ _ e => e))))
theorem rawN_of {P : Program} {w : World} {h : Heap} {a : Addr} {xs : List (NestedKey × Addr × Value)} (hs : (a == sysModules) = false) (hl : xs.length ≤ sizeLine) (x : h.DictOfH (nestedKind P w) a xs) : ∃ n, rawN P w a xs n h := by
  obtain ⟨o, es, ep, g1, g2, g3, g4, g5, g6⟩ := x
  exact ⟨ep, hs, hl, g6, o, es, g1, g2, g3, g4⟩
theorem dN_ok {P : Program} {w : World} {H : Hp} {h : Heap} {a : Addr} {xs : List (NestedKey × Addr × Value)} {n : Nat} (r : rawN P w a xs n h) : ObjOk P w H h a (dN P w a xs n) := by
  refine ⟨r, ?_, fun h1 h2 p q => ?_⟩
  · obtain ⟨_, _, _, o, es, g1, _⟩ := r
    exact ⟨o, g1⟩
  · obtain ⟨a1, a2, a3, o, es, g1, g2, g3, g4⟩ := p
    exact ⟨a1, a2, a3, o, es, q o g1, g2, g3, g4⟩
theorem pe_dispN {kx vx : Expr} {tk tv : TE} (hu : X.A.units + 64 < cLine) (hk : PE X kx tk) (hv : PE X vx tv) : PE X (.Dict [some kx] [vx] pos) (tDispN X.prog X.w X.K tk tv) := by
  refine ⟨fun pins s σ H Q I q => ?_⟩
  have hn := I.hok.fresh (Nat.le_refl s.heap.objs.size)
  have I1 := I.laid (a := s.heap.objs.size) (o := .dK []) (h' := s.heap.push { cls := .type "dict", data := .dict #[] }) (t' := s.toks) (fun _ _ q => Heap.get?_push_of_some _ q) (Nat.le_refl _) (dk_empty s.heap I.big)
  refine dict_pairsX (knd := nestedKind X.prog X.w) (pairs := pairTrees [some kx] [vx] X.env pos) (nroom' hu) (zip_pairTrees [some kx] [vx] X.env pos rfl rfl) (by simp [pairTrees]) (by rw [pairTrees_length _ _ _ _ rfl rfl]; show 1 ≤ 15; decide) ?_
  refine pairTrees_cons_walk (thn (hk.run pins _ σ _ _ I1 (q _ hn)) fun u s1 ⟨x, H1, I2, rx, q1⟩ => thn (hv.run pins s1 σ H1 _ I2 q1) fun w2 s2 ⟨y, H2, I3, ry, e0, b, d, z, ex, rd, ok, ez, q2⟩ => pairTrees_nil_walk ?_)
  subst ex
  cases rx
  obtain ⟨z', ez', ok', hz⟩ := rd.nkey I3.hok ok
  rw [ez] at ez'; cases ez'
  obtain ⟨h1, h3⟩ := dictOfH_nil I3.hok e0
  refine ⟨[(z, b, w2)], ⟨rfl, rfl, hz, trivial⟩, h3, fun h' tk dd hs => ?_⟩
  have dd' : h'.DictOfH (nestedKind X.prog X.w) s.heap.objs.size [(z, b, w2)] := dd
  have he : ∃ q, h'.get? s.heap.objs.size = some q := let ⟨q, _, _, hq, _⟩ := dd'; ⟨q, hq⟩
  obtain ⟨n, rn⟩ := rawN_of h1 (by rw [sizeLine_eq]; show 1 ≤ 16777216; decide) dd'
  exact ⟨.ref s.heap.objs.size, _, d_write I3 (by rw [e0]; exact True.intro) hs he (dN_ok rn), rfl, q2 w2 n ry⟩
def dDisp1 (fk fv : DE) : DE := fun s => match dSet fk s with
  | some (.fz k, s1) => match fv s1 with
    | some (y, s2) => match frz s2 y with
      | some (d, s3) => if kOk k && isTup k then some (.fr (.dict [(k, d)]), s3) else none
      | none => none
    | none => none
  | _ => none
theorem ev_disp1 (ft : Fit B X k) (hk : EV B X a fa) (hv : EV B X b fb) : EV B X (.Dict [some a] [b] pos) (dDisp1 fa fb) := by
  refine .of (pe_dispN ft.room.r.units hk.set.pe hv.pe) fun F pa s σ T H Q x s' j hf q => ?_
  rw [ft.p, ft.w, ft.kk]
  unfold dDisp1 at hf
  split at hf
  · rename_i kd s1 h1
    split at hf
    · rename_i y s2 h2
      split at hf
      · rename_i d s3 h3
        split at hf
        · rename_i hc
          cases hf
          obtain ⟨c1, c2⟩ := (Bool.and_eq_true _ _).mp hc
          intro p hp
          refine ⟨F, pa, s, _, _, s1, j.made hp (.dK .nil), h1, fun F1 pa1 v H1 j1 => ?_⟩
          refine ⟨F1, pa1, s1, _, y, s2, j1, h2, fun F2 pa2 u H2 j2 => ?_⟩
          obtain ⟨F3, sf, j3⟩ := j2.frz h3
          have t1 := j3.tmp _ (List.mem_cons_of_mem _ (List.mem_cons_of_mem _ List.mem_cons_self))
          have tk := j3.tmp _ (List.mem_cons_of_mem _ List.mem_cons_self)
          have tv := j3.tmp _ List.mem_cons_self
          obtain ⟨a', ea, x⟩ := t1
          cases ea
          obtain ⟨o, ho, c⟩ := x.cell
          have hO : o = .dK [] := by
            cases c with
            | dK r => cases r; rfl
            | dN n r => cases r; exact absurd rfl n
          subst hO
          obtain ⟨bb, hb⟩ := rep_tup c2 tk
          subst hb
          have kok : keyOk kd = true := ((Bool.and_eq_true _ _).mp c1).1
          obtain ⟨z, hz⟩ := keyN_some kok
          refine ⟨ho, bb, kd, z, rfl, RepD.mono j3.rd tk, c1, hz, fun uu nn ru => ?_⟩
          have dep : z.depth ≤ 8 := by rw [keyN_depth hz]; exact of_decide_eq_true ((Bool.and_eq_true _ _).mp c1).2
          refine q F3 pa2 _ _ ?_
          have c' : Cell B.P B.w B.K F3 (.dict [(kd, d)]) p (dN B.P B.w p [(z, bb, uu)] nn) := .dN (by simp) (.cons kok hz dep tk ru tv .nil)
          exact (j3.pop2).swapTop c'
        · cases hf
      · cases hf
    · cases hf
  · cases hf
end
end Rg
/-! Rg, part I: slices, chains, ranges made into lists and tuples. -/
namespace Rg
open PySem L2

theorem filterMap_rep {P : Program} {w : World} {K : PySem.W.Frag} {F : Hp} {ds : List PyData} {vs : List V} (r : RepAll P w K F ds vs) : ∀ is : List Nat, RepAll P w K F (is.filterMap (ds[·]?)) (is.filterMap (vs[·]?))
  | [] => .nil
  | i :: is => by
    rw [List.filterMap_cons, List.filterMap_cons]
    cases e : ds[i]? with
    | none =>
      have e2 : vs[i]? = none := by
        rw [List.getElem?_eq_none_iff] at e ⊢
        rw [← r.length]; exact e
      rw [e2]
      exact filterMap_rep r is
    | some d =>
      obtain ⟨v, h1, h2⟩ := r.get e
      rw [h1]
      exact .cons h2 (filterMap_rep r is)
theorem filterMap_vals {xs : List V} {us : List Value} (r : Vals xs us) : ∀ is : List Nat, Vals (is.filterMap (xs[·]?)) (is.filterMap (us[·]?))
  | [] => .nil
  | i :: is => by
    rw [List.filterMap_cons, List.filterMap_cons]
    cases e : xs[i]? with
    | none =>
      rw [r.none_of e]
      exact filterMap_vals r is
    | some x =>
      obtain ⟨u, h1, h2⟩ := r.get e
      rw [h1]
      exact .cons h2 (filterMap_vals r is)

section
variable {B : Bs} {X : Cx} {k : Nat} {F : Hp} {pa : Option (Addr × Addr)} {s : S} {σ : St} {T : List (Vl × V)} {H : Hp}
variable {es : List Expr} {e a b c : Expr} {f fa fb fc : DE} {g : DEs} {pos p2 : Pos} {lo hi : Option Expr}

/-! ### a part of a slice -/
abbrev DO := S → Option (Option Int × S)
def dNo : DO := fun s => some (none, s)
def dPart (f : DE) : DO := fun s => match f s with
  | some (.fz (.int i), s1) => some (some i, s1)
  | _ => none
def tDO (B : Bs) (f : DO) : TO := fun σ H Q => ∃ F pa s T x s', J B F pa s σ T H ∧ f s = some (x, s') ∧ ∀ F' pa' H', J B F' pa' s' σ T H' → Q x H'
structure EO (B : Bs) (X : Cx) (e : Option Expr) (f : DO) : Prop where
  po : PO X e (tDO B f)
theorem PO.to {e : Option Expr} {t u : TO} (h : PO X e t) (k : ∀ σ H Q, u σ H Q → t σ H Q) : PO X e u := ⟨fun pins s σ H Q I hq => h.run pins s σ H Q I (k σ H Q hq)⟩
theorem eo_no : EO B X none dNo := ⟨PO.to po_none fun σ H Q ⟨F, pa, s, T, x, s', j, hf, q⟩ => by cases hf; exact q F pa H j⟩
theorem eo_some (h : EV B X e f) : EO B X (some e) (dPart f) := by
  refine ⟨PO.to (po_some h.pe) fun σ H Q ⟨F, pa, s, T, x, s', j, hf, q⟩ => ?_⟩
  unfold dPart at hf
  split at hf
  · rename_i i s1 h1
    cases hf
    refine ⟨F, pa, s, T, _, _, j, h1, fun F1 pa1 v H1 j1 => ?_⟩
    have t1 := j1.tmp _ List.mem_cons_self
    cases (show B.Rep F1 (.int i) v from t1)
    exact ⟨i, rfl, q F1 pa1 H1 j1.pop⟩
  · cases hf
def cut (ds : List PyData) (lo hi : Option Int) : List PyData := (ds.drop (HT.sIx ds.length 0 lo)).take (HT.sIx ds.length ds.length hi - HT.sIx ds.length 0 lo)
theorem cut_rep {P : Program} {w : World} {K : PySem.W.Frag} {F : Hp} {ds : List PyData} {vs : List V} (r : RepAll P w K F ds vs) (lo hi : Option Int) : RepAll P w K F (cut ds lo hi) (cutV vs lo hi) := by
  unfold cut cutV
  rw [r.length]
  exact (r.drop _).take _
def cutText (x : Str) (lo hi : Option Int) : Str := cutS x lo hi
def dSlice (f : DE) (fl fh : DO) : DE := fun s => match dSet f s with
  | some (x, s1) => match fl s1 with
    | some (l, s2) => match fh s2 with
      | some (h, s3) => match cont s3 x with
        | some (.list ds) => some (.fr (.list (cut ds l h)), s3)
        | some (.tuple ds) => some (.fz (.tuple (cut ds l h)), s3)
        | _ => none
      | none => none
    | none => none
  | none => none
theorem ev_slice {fl fh : DO} (ft : Fit B X k) (h : EV B X e f) (hl : EO B X lo fl) (hh : EO B X hi fh) : EV B X (.Subscript e (.Slice lo hi none p2) pos) (dSlice f fl fh) := by
  refine .of (pe_slice (sl_list.or sl_tupA) h.set.pe hl.po hh.po) fun F pa s σ T H Q x s' j hf q => ?_
  unfold dSlice at hf
  split at hf
  · rename_i x1 s1 h1
    split at hf
    · rename_i l s2 h2
      split at hf
      · rename_i u s3 h3
        refine ⟨F, pa, s, T, x1, s1, j, h1, fun F1 pa1 v H1 j1 => ?_⟩
        refine ⟨F1, pa1, s1, _, l, s2, j1, h2, fun F2 pa2 H2 j2 => ?_⟩
        refine ⟨F2, pa2, s2, _, u, s3, j2, h3, fun F3 pa3 H3 j3 => ?_⟩
        split at hf
        · rename_i ds hd
          cases hf
          cases (TOk.top j3 (j3.tmp _ List.mem_cons_self) hd) with
          | lst e r => exact .inl ⟨_, _, rfl, .of e, fun p hp => q F3 pa3 _ _ (j3.pop.made hp (.lst (cut_rep r l u)))⟩
        · rename_i ds hd
          cases hf
          cases (TOk.top j3 (j3.tmp _ List.mem_cons_self) hd) with
          | tup e r =>
            refine .inr ⟨_, _, rfl, .of (j3.sub _ _ e), fun hw => ?_, fun hw p hp => q _ pa3 _ _ (j3.pop.newTup hp (cut_rep r l u))⟩
            have ec : cut ds l u = ds := by
              unfold cut
              rw [r.length, hw.1, hw.2]
              simp [← r.length]
            rw [ec] at q
            exact q F3 pa3 _ _ (j3.pop.pushFz (.tup e r))
        · cases hf
      · cases hf
    · cases hf
  · cases hf

/-! ### [::-1], [lo:hi:-1] -/
def pick (ds : List PyData) (lo hi : Option Int) : List PyData := (sliceRange (sliceBounds lo hi (some (-1)) ds.length).1 (sliceBounds lo hi (some (-1)) ds.length).2.1 (sliceBounds lo hi (some (-1)) ds.length).2.2).filterMap (ds[·]?)
def pickV (ds : List V) (lo hi : Option Int) : List V := (sliceRange (sliceBounds lo hi (some (-1)) ds.length).1 (sliceBounds lo hi (some (-1)) ds.length).2.1 (sliceBounds lo hi (some (-1)) ds.length).2.2).filterMap (ds[·]?)
theorem sliceApplied_rev {A : Around} {prog : Program} {w : World} {E : Value → Shared → Prop} {s : Shared} {sl : Addr} {t : Tok} {n : Nat} {Q : Int × Int × Nat → Shared → Prop} (hs : s.heap.IsSliceOf sl .none .none (.int (-1) t)) (h : Q ((n : Int) - 1, -1, n) s) :
    wpAny (model prog w) A (Builtin.Slice.sliceApplied (.ref sl) (pure (n : Int))) Q E s := by
  obtain ⟨os, hos, hcs, hds⟩ := id hs
  unfold Builtin.Slice.sliceApplied Builtin.Slice.sliceFields
  refine wpAny_bind (wpAny_bind (wpAny_field hos hds (x := .none) rfl (wpAny_bind (wpAny_field hos hds (x := .none) rfl (wpAny_bind (wpAny_field hos hds (x := .int (-1) t) rfl (wpAny_pure ?_)))))))
  refine wpAny_bind (PyProof.Rows.slicePart_int ?_)
  show wpAny _ _ (if ((-1 : Int) == 0) = true then _ else _) _ _ s
  rw [if_neg (by decide)]
  refine wpAny_bind (PyProof.Rows.slicePart_none (wpAny_bind (PyProof.Rows.slicePart_none (wpAny_bind (wpAny_pure ?_)))))
  show wpAny _ _ (pure (((n : Int) - 1), (-1 : Int), Builtin.Slice.slicePlaces ((n : Int) - 1) (-1) (-1))) _ _ s
  have e : Builtin.Slice.slicePlaces ((n : Int) - 1) (-1) (-1) = n := by
    unfold Builtin.Slice.slicePlaces
    simp
    split <;> omega
  rw [e]
  exact wpAny_pure h
theorem filterMap_cg {α β : Type} {f g : α → Option β} : ∀ {l : List α}, (∀ a ∈ l, f a = g a) → l.filterMap f = l.filterMap g
  | [], _ => rfl
  | a :: l, h => by
    rw [List.filterMap_cons, List.filterMap_cons, h a List.mem_cons_self, filterMap_cg fun b hb => h b (List.mem_cons_of_mem _ hb)]
theorem pick_rev (xs : Array Value) : ((List.range xs.size).filterMap fun (m : Nat) => xs[(((xs.size : Int) - 1) + (m : Int) * (-1)).toNat]?).toArray = xs.toList.reverse.toArray := by
  congr 1
  have e : ((List.range xs.size).filterMap fun (m : Nat) => xs[(((xs.size : Int) - 1) + (m : Int) * (-1)).toNat]?) = ((List.range xs.size).map (fun k => xs.size - 1 - k)).filterMap (xs[·]?) := by
    rw [List.filterMap_map]
    refine filterMap_cg fun m hm => ?_
    have := List.mem_range.mp hm
    show xs[(((xs.size : Int) - 1) + (m : Int) * (-1)).toNat]? = xs[xs.size - 1 - m]?
    have e2 : (((xs.size : Int) - 1) + (m : Int) * (-1)).toNat = xs.size - 1 - m := by omega
    rw [e2]
  rw [e, PySem.W.krv_range, List.filterMap_reverse, PySem.W.krv_all]
theorem getItem_tuple_rev {A : Around} {prog : Program} {w : World} {E : Value → Shared → Prop} {s : Shared} {t sl : Addr} {items : Array Value} {tk : Tok} {Q : Value → Shared → Prop} (ht : PyProof.Rows.IsTup s.heap t items) (hs : s.heap.IsSliceOf sl .none .none (.int (-1) tk))
    (h : Q (.ref s.heap.objs.size) { s with heap := s.heap.push { cls := .type "tuple", data := .seq items.toList.reverse.toArray } })
    (hsz : items.size ≤ sizeLine) : wpAny (model prog w) A (getItem (.ref t) (.ref sl)) Q E s := by
  have htake : sizeOk (.seq items.toList.reverse.toArray) := by
    show items.toList.reverse.toArray.size ≤ sizeLine
    rw [List.size_toArray, List.length_reverse, Array.length_toList]
    exact hsz
  obtain ⟨os, hos, hcs, hds⟩ := id hs
  have hTs : s.TypeIs (.ref sl) "slice" := ⟨os, hos, hcs⟩
  unfold getItem
  try with_reducible refine wpAny_holding ?_
  first | refine wpAny_bind (wpAny_pure ?_) | skip
  refine wpAny_bind (wpAny_sequenceKey ht.typeIs (by decide) ?_)
  refine wpAny_bind (wpAny_callSpecial?_slot (name := Str.ofString "__getitem__") ht.typeIs PyProof.Rows.slot_tuple_getitem
    (wpAny_call_entry PyProof.Rows.slot_tuple_getitem ht.typeIs PyProof.Rows.entry_tuple_getitem ?_ (PyProof.Rows.args_tuple_getitem _ _)))
  show wpAny _ _ (Builtin.Tuple.tupleItemsOf (.ref t) >>= _) _ _ s
  refine wpAny_bind (PyProof.Rows.tupleItemsOf_ ht ?_)
  refine wpAny_bind (wpAny_typeOf hTs ?_)
  rw [if_pos (by decide)]
  refine wpAny_bind (sliceApplied_rev hs ?_)
  show wpAny _ _ (if (((items.size : Int) - 1) == 0 && (-1 : Int) == 1 && items.size == items.size) = true then _ else _) _ _ s
  rw [if_neg (by simp), pick_rev]
  first
    | exact wpAny_bind (m := Builtin.Tuple.tupleExact _) (wpAny_newObj_type (wpAny_pure ⟨_, rfl, wpAny_pure h⟩) htake)
    | exact wpAny_bind (m := Builtin.Tuple.tupleExact _) (wpAny_newObj_type (wpAny_bind (wpAny_pure (wpAny_pure ⟨_, rfl, wpAny_pure h⟩))) htake)
    | exact wpAny_bind (wpAny_bind (m := Builtin.Tuple.tupleExact _) (wpAny_newObj_type (wpAny_pure (wpAny_pure ⟨_, rfl, wpAny_pure h⟩)) htake))
    | exact wpAny_bind (wpAny_bind (m := Builtin.Tuple.tupleExact _) (wpAny_newObj_type (wpAny_pure ⟨_, rfl, wpAny_pure h⟩) htake))
/-- e[::-1], e a list or a tuple -/
def tRevA (te : TE) : TE := fun σ H Q => te σ H fun x H1 => (∃ a xs, x = .ref a ∧ H1 a = some (.lst xs) ∧ ∀ p, H1 p = none → Q (.ref p) (upd H1 p (.lst xs.reverse))) ∨ (∃ a xs, x = .ref a ∧ H1 a = some (.tup xs) ∧ ∀ p, H1 p = none → Q (.ref p) (upd H1 p (.tup xs.reverse)))
theorem pe_revA {e : Expr} {te : TE} {k : Nat} {p1 p2 p3 pos : Pos} (he : PE X e te) : PE X (.Subscript e (.Slice none none (some (.UnaryOp .USub (.Constant (.int 1) k p1) p2)) p3) pos) (tRevA te) := by
  refine ⟨fun pins s σ H Q I h => ?_⟩
  refine PyProof.Rows.Subscript_ (thn (he.run pins s σ H _ I h) fun v s1 ⟨x, H1, I1, r1, q1⟩ => ?_)
  have hst : PO X (some (.UnaryOp .USub (.Constant (.int 1) k p1) p2)) (tPart (tUn (rU fun i => .int (-i)) (tC (.int 1)))) := po_some (pe_un un_neg pe_int)
  refine wpAny_Slice (thn (po_none.run pins s1 σ H1 (fun o H2 => o = none ∧ H2 = H1) I1 ⟨rfl, rfl⟩) fun vl s2 ⟨l, H2, I2, pl, el, e2⟩ => ?_)
  subst el e2
  refine thn (po_none.run pins s2 σ H2 (fun o H3 => o = none ∧ H3 = H2) I2 ⟨rfl, rfl⟩) fun vu s3 ⟨u, H3, I3, pu, eu, e3⟩ => ?_
  subst eu e3
  refine thn (hst.run pins s3 σ H3 (fun o H4 => o = some (-1) ∧ H4 = H3) I3 ⟨1, rfl, -1, rfl, rfl, rfl⟩) fun vs s4 ⟨o, H4, I4, ps, eo, e4⟩ => ?_
  subst eo e4
  have I5 : Inv X pins σ H4 { s4 with heap := s4.heap.push { cls := .type "slice", data := .fields #[vl, vu, vs] } } := I4.kept (t' := s4.toks) fun b ob q => Heap.get?_push_of_some _ q
  show wpAny (model X.prog X.w) X.A (PyProof.Rows.subscriptTail e (.Slice none none (some (.UnaryOp .USub (.Constant (.int 1) k p1) p2)) p3) v (.ref s4.heap.objs.size)) (EP X pins σ Q) X.xe { s4 with heap := s4.heap.push { cls := .type "slice", data := .fields #[vl, vu, vs] } }
  rcases q1 with ⟨a, xs, ex, hx, q⟩ | ⟨a, xs, ex, hx, q⟩
  · subst ex
    cases r1
    obtain ⟨its, r, ht, hz⟩ := I5.list (.of hx)
    have hlen := r.length
    refine PyProof.Rows.tail_any (ops := [.ref a, .ref s4.heap.objs.size]) ht.isList.typeIs (PySem.slot_list_getitem.lookup) ?_ (by with_unfolding_all rfl)
    refine wpAny_getItem_list_slice ht.isList (Heap.IsSliceOf.new _ vl vu vs) pl pu ps (by decide) ?_ (by rw [List.size_toArray]; omega)
    rw [PySem.W.krv_pick]
    refine ⟨.ref _, _, I5.laid (t' := s4.toks) (o := .lst xs.reverse) (fun b ob q => Heap.get?_push_of_some _ q) (Nat.le_refl _) ?_, rfl, q _ (I5.hok.fresh (Nat.le_refl _))⟩
    exact ⟨by rw [List.length_reverse]; exact hz, _, 0, r.reverse, Heap.get?_push_size _ rfl⟩
  · subst ex
    cases r1
    obtain ⟨its, r, ht, hz⟩ := I5.tuple (.of hx)
    have hlen := r.length
    cases pl
    cases pu
    cases ps
    refine PyProof.Rows.tail_any (ops := [.ref a, .ref s4.heap.objs.size]) ht.typeIs (PyProof.Rows.slot_tuple_getitem.lookup) ?_ (by with_unfolding_all rfl)
    refine getItem_tuple_rev ht (Heap.IsSliceOf.new _ _ _ _) ?_ (by rw [List.size_toArray]; omega)
    refine ⟨.ref _, _, I5.laid (t' := s4.toks) (o := .tup xs.reverse) (fun b ob q => Heap.get?_push_of_some _ q) (Nat.le_refl _) ?_, rfl, q _ (I5.hok.fresh (Nat.le_refl _))⟩
    exact ⟨by rw [List.length_reverse]; exact hz, its.reverse, r.reverse, ⟨_, Heap.get?_push_size _ rfl, rfl, _, rfl⟩⟩
def dRev (f : DE) : DE := fun s => match dSet f s with
  | some (x, s1) => match cont s1 x with
    | some (.list ds) => some (.fr (.list ds.reverse), s1)
    | some (.tuple ds) => some (.fz (.tuple ds.reverse), s1)
    | _ => none
  | none => none
theorem ev_rev {k : Nat} {p1 p3 : Pos} (h : EV B X e f) : EV B X (.Subscript e (.Slice none none (some (.UnaryOp .USub (.Constant (.int 1) k p1) p2)) p3) pos) (dRev f) := by
  refine .of (pe_revA h.set.pe) fun F pa s σ T H Q x s' j hf q => ?_
  unfold dRev at hf
  split at hf
  · rename_i x1 s1 h1
    refine ⟨F, pa, s, T, x1, s1, j, h1, fun F1 pa1 v H1 j1 => ?_⟩
    split at hf
    · rename_i ds hd
      cases hf
      cases (TOk.top j1 (j1.tmp _ List.mem_cons_self) hd) with
      | lst e r => exact .inl ⟨_, _, rfl, e, fun p hp => q F1 pa1 _ _ (j1.pop.made hp (.lst r.reverse))⟩
    · rename_i ds hd
      cases hf
      cases (TOk.top j1 (j1.tmp _ List.mem_cons_self) hd) with
      | tup e r => exact .inr ⟨_, _, rfl, j1.sub _ _ e, fun p hp => q _ pa1 _ _ (j1.pop.newTup hp r.reverse)⟩
    · cases hf
  · cases hf
end
end Rg
/-! Rg, part J: calls of built-ins and of their methods, by values. -/
namespace Rg
open PySem L2

/-! ### operands, several -/
inductive Tops (P : Program) (w : World) (K : PySem.W.Frag) (F H : Hp) : List PyData → List V → Prop
  | nil : Tops P w K F H [] []
  | cons {d : PyData} {v : V} {ds : List PyData} {vs : List V} : Top P w K F H d v → Tops P w K F H ds vs → Tops P w K F H (d :: ds) (v :: vs)
def conts (s : S) : List Vl → Option (List PyData)
  | [] => some []
  | x :: xs => match cont s x, conts s xs with
    | some d, some ds => some (d :: ds)
    | _, _ => none
section
variable {B : Bs} {X : Cx} {k : Nat} {F : Hp} {pa : Option (Addr × Addr)} {s : S} {σ : St} {T : List (Vl × V)} {H : Hp}
theorem J.tops (j : J B F pa s σ T H) : ∀ {xs : List Vl} {vs : List V} {ds : List PyData}, xs.length = vs.length → (∀ p ∈ xs.zip vs, p ∈ T) → conts s xs = some ds → Tops B.P B.w B.K F H ds vs
  | [], [], _, _, _, h => by cases h; exact .nil
  | [], _ :: _, _, e, _, _ => by cases e
  | _ :: _, [], _, e, _, _ => by cases e
  | x :: xs, v :: vs, ds, e, hm, h => by
    unfold conts at h
    split at h
    · rename_i d ds' h1 h2
      cases h
      exact .cons (TOk.top j (j.tmp _ (hm _ List.mem_cons_self)) h1) (j.tops (by simpa using e) (fun p hp => hm p (List.mem_cons_of_mem _ hp)) h2)
    · cases h
abbrev OpN := List PyData → Option Vl
def CallOk (B : Bs) (X : Cx) (f : Value) (op : OpN) : Prop :=
  ∃ r : List V → Hp → VK → Prop, CallR X f r ∧ ∀ F pa s σ T H Q ds vs z, J B F pa s σ T H → Tops B.P B.w B.K F H ds vs → op ds = some z → (∀ F' u H', J B F' pa s σ ((z, u) :: T) H' → Q u H') → r vs H Q
def dCallB (op : OpN) (g : DEs) : DE := fun s => match g s with
  | some (xs, s1) => match conts s1 xs with
    | some ds => (op ds).map fun z => (z, s1)
    | none => none
  | none => none
variable {es : List Expr} {e a b c : Expr} {f fa fb fc : DE} {g : DEs} {pos p apos cpos : Pos} {x id Ty : String} {op : OpN}
theorem onT_keep {xs : List Vl} {vs : List V} {z : Vl × V} : (z :: T).Sublist (z :: onT xs vs T) := .cons_cons z (onT_sub xs vs T)
theorem callB_read {r : List V → Hp → VK → Prop} (hr : ∀ F pa s σ T H Q ds vs z, J B F pa s σ T H → Tops B.P B.w B.K F H ds vs → op ds = some z → (∀ F' u H', J B F' pa s σ ((z, u) :: T) H' → Q u H') → r vs H Q)
    {F pa s σ T H Q x s'} (j : J B F pa s σ T H) (hf : dCallB op g s = some (x, s')) (q : ∀ F' pa' v H', J B F' pa' s' σ ((x, v) :: T) H' → Q v H') : tDs B g σ H fun vs H1 => r vs H1 Q := by
  unfold dCallB at hf
  split at hf
  · rename_i xs s1 h1
    split at hf
    · rename_i ds h2
      obtain ⟨z, hz, e⟩ := Option.map_eq_some_iff.mp hf
      cases e
      refine ⟨F, pa, s, T, xs, _, j, h1, fun F1 pa1 vs H1 hl j1 => ?_⟩
      exact hr F1 pa1 _ σ _ H1 Q ds vs _ j1 (j1.tops hl (onT_mem xs vs T) h2) hz fun F2 u H2 j2 => q F2 pa1 u H2 (j2.sub_T onT_keep)
    · cases hf
  · cases hf
theorem ev_callB (hc : CallOk B X (.builtin id) op) (hg : Gl X x) (hm : X.mg x = none) (hv : bootBuiltins x = some (.builtin id)) (ha : EA B X (e :: es) g) (hn : (x : Str) ≠ "__name__" := by decide) (hdb : ((x : Str) == ("__debug__" : Str)) = false := by decide)
    (he : starEach (e :: es) X.env = (false, eval e X.env) :: starEach es X.env := by rfl) (hpl : (backTo pos (starEach es X.env)).any (·.1) = false := by rfl) : EV B X (.Call (.Name x p) (e :: es) [] pos) (dCallB op g) := by
  obtain ⟨r, h1, h2⟩ := hc
  exact .of (pe_callB h1 hg hm hv ha.pa hn hdb he hpl) fun F pa s σ T H Q x s' j hf q => callB_read h2 j hf q
theorem ev_callTy (hc : CallOk B X (.type Ty) op) (hg : Gl X x) (hm : X.mg x = none) (hv : bootBuiltins x = some (.type Ty)) (ha : EA B X (e :: es) g) (hn : (x : Str) ≠ "__name__" := by decide) (hdb : ((x : Str) == ("__debug__" : Str)) = false := by decide)
    (he : starEach (e :: es) X.env = (false, eval e X.env) :: starEach es X.env := by rfl) (hpl : (backTo pos (starEach es X.env)).any (·.1) = false := by rfl) : EV B X (.Call (.Name x p) (e :: es) [] pos) (dCallB op g) := by
  obtain ⟨r, h1, h2⟩ := hc
  exact .of (pe_callTy h1 hg hm hv ha.pa hn hdb he hpl) fun F pa s σ T H Q x s' j hf q => callB_read h2 j hf q

/-! ### a method of a built-in type -/
def TyIs (X : Cx) (T : String) (x : V) (H : Hp) : Prop := ∀ pins σ s v, Inv X pins σ H s → RelV x v → s.TypeIs v T ∧ ∀ a, v = .ref a → ∃ ob, s.heap.get? a = some ob ∧ ob.dict = none
def tM (X : Cx) (T : String) (r : V → List V → Hp → VK → Prop) (to : TE) (t : TA) : TE := fun σ H Q => to σ H fun x H1 => TyIs X T x H1 ∧ t σ H1 fun xs H2 => r x xs H2 Q
section
variable {o : Expr} {name : Str} {to : TE} {t : TA} {T : String} {r : V → List V → Hp → VK → Prop}
theorem pe_m0 (pa : PlainAttrs T) (slot : Slot T name id) (hty : typeOf (.builtin id) = pure (.type "method_descriptor")) (hm : MtR X id r) (ho : PE X o to)
    (hbase : attributeBase o name X.env (eval o X.env) = eval o X.env := by rfl) (hline : (apos.endLine == cpos.line) = true := by rfl) : PE X (.Call (.Attribute o name apos) [] [] cpos) (tM X T r to tNil) := by
  refine ⟨fun pins s σ H Q I h => ?_⟩
  refine wpAny_Call_method0_late hbase hline (thn (ho.run pins s σ H _ I h) fun v s1 ⟨x, H1, I1, r1, ty, q1⟩ => ?_)
  obtain ⟨h1, h2⟩ := ty pins σ s1 v I1 r1
  exact ⟨T, id, pa, slot, hty, h1, h2, Calls.callWith_builtin rfl (PySem.evalArgs_none (hm pins s1 σ H1 x [] v [] Q I1 r1 .nil q1))⟩
theorem pe_m (pa : PlainAttrs T) (slot : Slot T name id) (hty : typeOf (.builtin id) = pure (.type "method_descriptor")) (hm : MtR X id r) (ho : PE X o to) (ha : PA X (e :: es) t)
    (hbase : attributeBase o name X.env (eval o X.env) = eval o X.env := by rfl)
    (hfew : ((backTo cpos (starEach (e :: es) X.env)).all (fun x => !x.1) && (backToKw cpos (keywordEach [] X.env)).all (fun x => x.1.isSome)
      && decide ((e :: es).length + ([] : List Keyword).length + (if ([] : List Keyword).isEmpty then 0 else 1) < 30)) = true := by rfl)
    (hline : (apos.endLine == cpos.line) = true := by rfl) (hs : starEach (e :: es) X.env = (false, eval e X.env) :: starEach es X.env := by rfl) (hplain : (backTo cpos (starEach es X.env)).any (·.1) = false := by rfl) :
    PE X (.Call (.Attribute o name apos) (e :: es) [] cpos) (tM X T r to t) := by
  refine ⟨fun pins s σ H Q I h => ?_⟩
  refine wpAny_Call_method_late hbase hfew hline rfl (thn (ho.run pins s σ H _ I h) fun v s1 ⟨x, H1, I1, r1, ty, q1⟩ => ?_)
  obtain ⟨h1, h2⟩ := ty pins σ s1 v I1 r1
  refine ⟨T, id, pa, slot, hty, h1, h2, ?_⟩
  have hA := ha.run cpos pins s1 σ H1 _ I1 q1
  rw [hs] at hA ⊢
  refine Calls.callWith_builtin (by show (false || (backTo cpos (starEach es X.env)).any (·.1)) = false; rw [hplain] <;> rfl) (Calls.evalArgs_plain ?_)
  exact thn hA fun us s2 ⟨vs, H2, I2, r2, q2⟩ => hm pins s2 σ H2 x vs v us Q I2 r1 r2 q2
end
/-- the built-in type of data that may have its methods called -/
def tyName : PyData → Option String
  | .list _ => some "list"
  | .dict _ => some "dict"
  | .str _ => some "str"
  | _ => none
theorem ty_of {d : PyData} {v : V} {n : String} (h : tyName d = some n) (r : Top B.P B.w B.K F H d v) (ft : Fit B X k) : TyIs X n v H := by
  intro pins σ s u I ru
  cases r with
  | non => cases h
  | bl _ => cases h
  | int _ => cases h
  | tup _ _ => cases h
  | str x => cases h; exact tyV_is I ru rfl
  | lst e _ => cases h; exact tyV_is I ru (.inl ⟨rfl, _, .of e⟩)
  | dK e _ => cases h; exact tyV_is I ru (.inr (.inr (.inl ⟨rfl, .inl ⟨_, e⟩⟩)))
  | dN e _ _ =>
    cases h
    cases ru
    obtain ⟨⟨_, _, _, o, es, h4, h5, _⟩, _⟩ := I.hok _ _ e
    exact ⟨⟨o, h4, h5.1⟩, fun a e => by cases e; exact ⟨o, h4, h5.2.1⟩⟩

/-! ### methods that read -/
def MetOk (B : Bs) (X : Cx) (id : String) (op : OpN) : Prop :=
  ∃ r : V → List V → Hp → VK → Prop, MtR X id r ∧ ∀ F pa s σ T H Q d v ds vs z, J B F pa s σ T H → B.Top F H d v → Tops B.P B.w B.K F H ds vs → op (d :: ds) = some z → (∀ F' u H', J B F' pa s σ ((z, u) :: T) H' → Q u H') → r v vs H Q
/-- the receiver is asked for its type when it comes, and again for its content behind the arguments -/
def dMet (n : String) (op : OpN) (fo : DE) (g : DEs) : DE := fun s => match dSet fo s with
  | some (x, s1) => match cont s1 x with
    | some d0 => if tyName d0 = some n then match g s1 with
      | some (xs, s2) => match cont s2 x, conts s2 xs with
        | some d, some ds => (op (d :: ds)).map fun z => (z, s2)
        | _, _ => none
      | none => none
      else none
    | none => none
  | none => none
theorem met_read (ft : Fit B X k) {n : String} {r : V → List V → Hp → VK → Prop} (hr : ∀ F pa s σ T H Q d v ds vs z, J B F pa s σ T H → B.Top F H d v → Tops B.P B.w B.K F H ds vs → op (d :: ds) = some z → (∀ F' u H', J B F' pa s σ ((z, u) :: T) H' → Q u H') → r v vs H Q)
    {F pa s σ T H Q x s'} (j : J B F pa s σ T H) (hf : dMet n op f g s = some (x, s')) (q : ∀ F' pa' v H', J B F' pa' s' σ ((x, v) :: T) H' → Q v H') : tM X n r (tD B (dSet f)) (tDs B g) σ H Q := by
  unfold dMet at hf
  split at hf
  · rename_i x1 s1 h1
    split at hf
    · rename_i d0 hd0
      split at hf
      · rename_i ht
        split at hf
        · rename_i xs s2 h2
          split at hf
          · rename_i d ds hd hds
            obtain ⟨z, hz, e⟩ := Option.map_eq_some_iff.mp hf
            cases e
            refine ⟨F, pa, s, T, x1, s1, j, h1, fun F1 pa1 v H1 j1 => ⟨ty_of ht (TOk.top j1 (j1.tmp _ List.mem_cons_self) hd0) ft, ?_⟩⟩
            refine ⟨F1, pa1, s1, _, xs, _, j1, h2, fun F2 pa2 vs H2 hl j2 => ?_⟩
            refine hr F2 pa2 _ σ _ H2 Q d v ds vs _ j2 (TOk.top j2 (j2.tmp _ ((onT_sub xs vs _).subset List.mem_cons_self)) hd) (j2.tops hl (onT_mem xs vs _) hds) hz fun F3 u H3 j3 => ?_
            exact q F3 pa2 u H3 (j3.sub_T (.cons_cons _ (.trans (.cons _ (.refl T)) (onT_sub xs vs _))))
          · cases hf
        · cases hf
      · cases hf
    · cases hf
  · cases hf
variable {o : Expr} {name : Str} {T : String}
theorem ev_met (ft : Fit B X k) (pa : PlainAttrs T) (slot : Slot T name id) (hty : typeOf (.builtin id) = pure (.type "method_descriptor")) (hm : MetOk B X id op) (ho : EV B X o f) (ha : EA B X (e :: es) g)
    (hbase : attributeBase o name X.env (eval o X.env) = eval o X.env := by rfl)
    (hfew : ((backTo cpos (starEach (e :: es) X.env)).all (fun x => !x.1) && (backToKw cpos (keywordEach [] X.env)).all (fun x => x.1.isSome)
      && decide ((e :: es).length + ([] : List Keyword).length + (if ([] : List Keyword).isEmpty then 0 else 1) < 30)) = true := by rfl)
    (hline : (apos.endLine == cpos.line) = true := by rfl) (hs : starEach (e :: es) X.env = (false, eval e X.env) :: starEach es X.env := by rfl) (hplain : (backTo cpos (starEach es X.env)).any (·.1) = false := by rfl) :
    EV B X (.Call (.Attribute o name apos) (e :: es) [] cpos) (dMet T op f g) := by
  obtain ⟨r, h1, h2⟩ := hm
  exact .of (pe_m pa slot hty h1 ho.set.pe ha.pa hbase hfew hline hs hplain) fun F pa s σ T H Q x s' j hf q => met_read ft h2 j hf q

/-! ### methods that change a slot's own list or dict -/
abbrev OpM := PyData → List PyData → Option (PyData × PyData)
def MutOk (B : Bs) (X : Cx) (id : String) (op : OpM) : Prop :=
  ∃ r : V → List V → Hp → VK → Prop, MtR X id r ∧ ∀ F H Q d a o ds vs z d', Same F H → H a = some o → Cell B.P B.w B.K F d a o → RepAll B.P B.w B.K F ds vs → op d ds = some (z, d') →
    (∀ o' u, Cell B.P B.w B.K F d' a o' → B.Rep F z u → Q u (upd H a o')) → r (.ref a) vs H Q
def dMut (n : String) (op : OpM) (fo : DE) (g : DEs) : DE := fun s => match fo s with
  | some (.sl i, s1) => match s1.env[i]? with
    | some (some (.own d0)) => if tyName d0 = some n then match g s1 with
      | some (xs, s2) => match frzAll s2 xs with
        | some (ds, s3) => match s3.env[i]? with
          | some (some (.own d)) => (op d ds).map fun r => (.fz r.1, s3.put i (.own r.2))
          | _ => none
        | none => none
      | none => none
      else none
    | _ => none
  | _ => none
theorem mut_read (ft : Fit B X k) {n : String} {op : OpM} {r : V → List V → Hp → VK → Prop} (hr : ∀ F H Q d a o ds vs z d', Same F H → H a = some o → Cell B.P B.w B.K F d a o → RepAll B.P B.w B.K F ds vs → op d ds = some (z, d') →
    (∀ o' u, Cell B.P B.w B.K F d' a o' → B.Rep F z u → Q u (upd H a o')) → r (.ref a) vs H Q)
    {F pa s σ T H Q x s'} (j : J B F pa s σ T H) (hf : dMut n op f g s = some (x, s')) (q : ∀ F' pa' v H', J B F' pa' s' σ ((x, v) :: T) H' → Q v H') : tM X n r (tD B f) (tDs B g) σ H Q := by
  unfold dMut at hf
  split at hf
  · rename_i i s1 h1
    split at hf
    · rename_i d0 hd0
      split at hf
      · rename_i ht
        split at hf
        · rename_i xs s2 h2
          split at hf
          · rename_i ds s3 h3
            split at hf
            · rename_i d hd
              obtain ⟨⟨z, d'⟩, hz, e⟩ := Option.map_eq_some_iff.mp hf
              cases e
              refine ⟨F, pa, s, T, _, s1, j, h1, fun F1 pa1 v H1 j1 => ⟨ty_of ht (TOk.top j1 (j1.tmp _ List.mem_cons_self) (by simp [cont, hd0])) ft, ?_⟩⟩
              refine ⟨F1, pa1, s1, _, xs, s2, j1, h2, fun F2 pa2 vs H2 hl j2 => ?_⟩
              obtain ⟨F3, sf, j3, rr⟩ := j2.frzAll hl (onT_mem xs vs _) h3
              obtain ⟨a, ha, ow⟩ := j3.own i d hd
              have hv : v = .ref a := by
                obtain ⟨_, h5⟩ := j3.tmp _ ((onT_sub xs vs _).subset List.mem_cons_self)
                exact h5.inj ha
              subst hv
              obtain ⟨o, ho, c⟩ := ow.cell
              refine hr F3 H2 Q d a o ds vs z d' j3.sub ho c rr hz fun o' u c' ru => ?_
              refine q F3 pa2 u _ ?_
              have j4 := j3.mut hd ha c'
              exact (j4.sub_T (.trans (.cons _ (.refl T)) (onT_sub xs vs _))).pushFz ru
            · cases hf
          · cases hf
        · cases hf
      · cases hf
    · cases hf
  · cases hf
theorem ev_mut {op : OpM} (ft : Fit B X k) (pa : PlainAttrs T) (slot : Slot T name id) (hty : typeOf (.builtin id) = pure (.type "method_descriptor")) (hm : MutOk B X id op) (ho : EV B X o f) (ha : EA B X (e :: es) g)
    (hbase : attributeBase o name X.env (eval o X.env) = eval o X.env := by rfl)
    (hfew : ((backTo cpos (starEach (e :: es) X.env)).all (fun x => !x.1) && (backToKw cpos (keywordEach [] X.env)).all (fun x => x.1.isSome)
      && decide ((e :: es).length + ([] : List Keyword).length + (if ([] : List Keyword).isEmpty then 0 else 1) < 30)) = true := by rfl)
    (hline : (apos.endLine == cpos.line) = true := by rfl) (hs : starEach (e :: es) X.env = (false, eval e X.env) :: starEach es X.env := by rfl) (hplain : (backTo cpos (starEach es X.env)).any (·.1) = false := by rfl) :
    EV B X (.Call (.Attribute o name apos) (e :: es) [] cpos) (dMut T op f g) := by
  obtain ⟨r, h1, h2⟩ := hm
  exact .of (pe_m pa slot hty h1 ho.pe ha.pa hbase hfew hline hs hplain) fun F pa s σ T H Q x s' j hf q => mut_read ft h2 j hf q
theorem ev_mut0 {op : OpM} (ft : Fit B X k) (pa : PlainAttrs T) (slot : Slot T name id) (hty : typeOf (.builtin id) = pure (.type "method_descriptor")) (hm : MutOk B X id op) (ho : EV B X o f)
    (hbase : attributeBase o name X.env (eval o X.env) = eval o X.env := by rfl) (hline : (apos.endLine == cpos.line) = true := by rfl) :
    EV B X (.Call (.Attribute o name apos) [] [] cpos) (dMut T op f dNil) := by
  obtain ⟨r, h1, h2⟩ := hm
  refine .of (pe_m0 pa slot hty h1 ho.pe hbase hline) fun F pa s σ T H Q x s' j hf q => ?_
  obtain ⟨F1, pa1, s1, T1, x1, s1', j1, hf1, q1⟩ := mut_read ft h2 j hf q
  exact ⟨F1, pa1, s1, T1, x1, s1', j1, hf1, fun F' pa' v H' j' => ⟨(q1 F' pa' v H' j').1, by
    obtain ⟨F2, pa2, s2, T2, xs, s2', j2, hf2, q2⟩ := (q1 F' pa' v H' j').2
    cases hf2
    exact q2 F2 pa2 [] H' rfl j2⟩⟩

/-! ### list: append, extend, pop, insert -/
def opAppend : OpM
  | .list ds, [d] => if ds.length < lim then some (.none, .list (ds ++ [d])) else none
  | _, _ => none
theorem append_ok : MutOk B X "list.append" opAppend := by
  refine ⟨_, mt_append, fun F H Q d a o ds vs z d' sf ho c r h q => ?_⟩
  unfold opAppend at h
  split at h
  · split at h
    · rename_i hl
      cases h
      cases c with
      | lst rc =>
        cases r with
        | cons r1 r2 =>
          cases r2
          exact ⟨_, _, _, rfl, rfl, ho, by rw [← rc.length]; exact lim_lt (Nat.le_of_lt hl), q _ _ (.lst (rc.append (.one r1))) .non⟩
    · cases h
  · cases h
def opPop : OpM
  | .list ds, [] => (ds[ds.length - 1]?).map fun d => (d, .list ds.dropLast)
  | _, _ => none
theorem RepAll.dropLast {P : Program} {w : World} {K : PySem.W.Frag} {F : Hp} : ∀ {ds : List PyData} {vs : List V}, RepAll P w K F ds vs → RepAll P w K F ds.dropLast vs.dropLast
  | _, _, .nil => .nil
  | _, _, .cons h .nil => .nil
  | _, _, .cons h (.cons h2 t) => .cons h (RepAll.dropLast (.cons h2 t))
theorem pop_ok : MutOk B X "list.pop" opPop := by
  refine ⟨_, mt_pop, fun F H Q d a o ds vs z d' sf ho c r h q => ?_⟩
  unfold opPop at h
  split at h
  · obtain ⟨y, h1, h2⟩ := Option.map_eq_some_iff.mp h
    cases h2
    cases c with
    | lst rc =>
      cases r
      obtain ⟨u, h3, h4⟩ := rc.get h1
      exact ⟨_, _, u, rfl, rfl, ho, by rw [← rc.length]; exact h3, q _ _ (.lst rc.dropLast) h4⟩
  · cases h
def opPopAt : OpM
  | .list ds, [.int i] => if decide (0 ≤ i) && decide (i < 1000000) then (ds[i.toNat]?).map fun d => (d, .list (ds.eraseIdx i.toNat)) else none
  | _, _ => none
theorem popAt_ok : MutOk B X "list.pop" opPopAt := by
  refine ⟨_, mt_popAt, fun F H Q d a o ds vs z d' sf ho c r h q => ?_⟩
  unfold opPopAt at h
  split at h
  · split at h
    · rename_i ds' i hs
      simp only [Bool.and_eq_true, decide_eq_true_eq] at hs
      obtain ⟨y, h1, h2⟩ := Option.map_eq_some_iff.mp h
      cases h2
      cases c with
      | lst rc =>
        cases r with
        | cons r1 r2 =>
          cases r2
          cases r1
          obtain ⟨u, h3, h4⟩ := rc.get h1
          have hlt : i.toNat < ds'.length := (List.getElem?_eq_some_iff.mp h1).1
          exact ⟨_, _, i, i.toNat, u, rfl, rfl, ho, by omega, by omega, seqIndex_of hs.1 (by rw [← rc.length]; omega), h3, q _ _ (.lst (rc.eraseIdx _)) h4⟩
    · cases h
  · cases h
def opInsert : OpM
  | .list ds, [.int i, d] => if decide (0 ≤ i) && decide (i < 1000000) && decide (ds.length < lim) then some (.none, .list (ds.take i.toNat ++ [d] ++ ds.drop i.toNat)) else none
  | _, _ => none
theorem insert_ok : MutOk B X "list.insert" opInsert := by
  refine ⟨_, mt_insert, fun F H Q d a o ds vs z d' sf ho c r h q => ?_⟩
  unfold opInsert at h
  split at h
  · split at h
    · rename_i ds' i _ hs
      simp only [Bool.and_eq_true, decide_eq_true_eq] at hs
      cases h
      cases c with
      | lst rc =>
        cases r with
        | cons r1 r2 =>
          cases r2 with
          | cons r2 r3 =>
            cases r3
            cases r1
            exact ⟨_, _, i, _, rfl, rfl, ho, by rw [← rc.length]; exact lim_lt (Nat.le_of_lt hs.2), hs.1.1, by omega, q _ _ (.lst (((rc.take _).append (.one r2)).append (rc.drop _))) .non⟩
    · cases h
  · cases h
end
end Rg
/-! Rg, part K: statements. -/
namespace Rg
open PySem L2

inductive Out where
  | nx | rt (x : Vl) | bk | ct
abbrev DS := S → Option (Out × S)

section
variable (B : Bs)
/-- what is wanted behind a statement, by how it ended -/
def OutK (D : Ends) (s' : S) (T : List (Vl × V)) : Out → Prop
  | .nx => ∀ F' pa' σ' H', J B F' pa' s' σ' T H' → D.nx σ' H'
  | .rt x => ∀ F' pa' σ' v H', J B F' pa' s' σ' ((x, v) :: T) H' → D.rt v H'
  | .bk => ∀ F' pa' σ' H', J B F' pa' s' σ' T H' → D.bk σ' H'
  | .ct => ∀ F' pa' σ' H', J B F' pa' s' σ' T H' → D.ct σ' H'
def noSl (T : List (Vl × V)) : Prop := ∀ t ∈ T, t.1.isSl = false
def tDS (f : DS) : TS := fun D σ H => ∃ F pa s T o s', noSl T ∧ J B F pa s σ T H ∧ f s = some (o, s') ∧ OutK B D s' T o
structure ES (X : Cx) (st : Stmt) (f : DS) : Prop where
  ps : PS X st (tDS B f)
structure EB (X : Cx) (st : List Stmt) (f : DS) : Prop where
  ps : PSs X st (tDS B f)
/-- a target: the value on top is stored -/
abbrev DG := Vl → S → Option S
abbrev DGs := List Vl → S → Option S
/-- the stack has no slot of W -/
def offT (W : List Nat) (T : List (Vl × V)) : Prop := ∀ t ∈ T, ∀ i ∈ W, t.1 ≠ .sl i
/-- slots off W stay -/
def stays (W : List Nat) (σ σ' : St) : Prop := σ'.length = σ.length ∧ ∀ i, i ∉ W → σ'[i]? = σ[i]?
def tDG (W : List Nat) (p : DG) : TG := fun v σ H Q => ∃ F pa s T x s', J B F pa s σ ((x, v) :: T) H ∧ offT W T ∧ p x s = some s' ∧ ∀ F' pa' σ' H', J B F' pa' s' σ' T H' → stays W σ σ' → Q σ' H'
def tDGs (W : List Nat) (p : DGs) : TGs := fun vs σ H Q => ∃ F pa s T xs s', xs.length = vs.length ∧ J B F pa s σ (xs.zip vs ++ T) H ∧ offT W (xs.zip vs ++ T) ∧ p xs s = some s' ∧ ∀ F' pa' σ' H', J B F' pa' s' σ' T H' → stays W σ σ' → Q σ' H'
structure EG (X : Cx) (W : List Nat) (t : Expr) (p : DG) : Prop where
  pg : PG X t (tDG B W p)
structure EGs (X : Cx) (W : List Nat) (ts : List Expr) (p : DGs) : Prop where
  pg : PGs X ts (tDGs B W p)
end

section
variable {B : Bs} {X : Cx} {k : Nat} {F : Hp} {pa : Option (Addr × Addr)} {s : S} {σ : St} {T : List (Vl × V)} {H : Hp}
variable {st : Stmt} {sts : List Stmt} {e a b c t : Expr} {es ts : List Expr} {f : DE} {fs gs : DS} {g : DEs} {pos p apos cpos : Pos} {dt : DT} {pg : DG} {pgs : DGs}

theorem PS.to {t u : TS} (h : PS X st t) (k : ∀ D σ H, u D σ H → t D σ H) : PS X st u := ⟨fun pins s σ H D I hq => h.run pins s σ H D I (k D σ H hq)⟩
theorem PSs.to {t u : TS} (h : PSs X sts t) (k : ∀ D σ H, u D σ H → t D σ H) : PSs X sts u := ⟨fun pins s σ H D I hq => h.run pins s σ H D I (k D σ H hq)⟩
theorem PG.to {t : Expr} {a u : TG} (h : PG X t a) (k : ∀ v σ H Q, u v σ H Q → a v σ H Q) : PG X t u := ⟨fun pins s σ H v w Q I r hq => h.run pins s σ H v w Q I r (k v σ H Q hq)⟩
theorem PGs.to {ts : List Expr} {a u : TGs} (h : PGs X ts a) (k : ∀ v σ H Q, u v σ H Q → a v σ H Q) : PGs X ts u := ⟨fun pins s σ H v w Q I r hq => h.run pins s σ H v w Q I r (k v σ H Q hq)⟩
theorem ES.of {t : TS} (h : PS X st t) (k : ∀ F pa s σ T H D o s', noSl T → J B F pa s σ T H → fs s = some (o, s') → OutK B D s' T o → t D σ H) : ES B X st fs :=
  ⟨PS.to h fun D σ H ⟨F, pa, s, T, o, s', nt, j, hf, q⟩ => k F pa s σ T H D o s' nt j hf q⟩

/-! ### blocks -/
def dNop : DS := fun s => some (.nx, s)
def dSeq (f g : DS) : DS := fun s => match f s with
  | some (.nx, s1) => g s1
  | r => r
theorem eb_nil : EB B X [] dNop := ⟨PSs.to pss_nil fun D σ H ⟨F, pa, s, T, o, s', nt, j, hf, q⟩ => by cases hf; exact q F pa σ H j⟩
theorem eb_cons (h : ES B X st fs) (h2 : EB B X sts gs) : EB B X (st :: sts) (dSeq fs gs) := by
  refine ⟨PSs.to (pss_cons h.ps h2.ps) fun D σ H ⟨F, pa, s, T, o, s', nt, j, hf, q⟩ => ?_⟩
  unfold dSeq at hf
  split at hf
  · rename_i s1 h1
    exact ⟨F, pa, s, T, .nx, s1, nt, j, h1, fun F' pa' σ' H' j' => ⟨F', pa', s1, T, o, s', nt, j', hf, q⟩⟩
  · rename_i r hne
    refine ⟨F, pa, s, T, o, s', nt, j, hf, ?_⟩
    cases o with
    | nx => exact absurd hf (hne s')
    | rt x => exact q
    | bk => exact q
    | ct => exact q
theorem es_pass : ES B X (.Pass pos) dNop := .of ps_pass fun F pa s σ T H D o s' nt j hf q => by cases hf; exact q F pa σ H j
theorem es_break : ES B X (.Break pos) (fun s => some (.bk, s)) := .of ps_break fun F pa s σ T H D o s' nt j hf q => by cases hf; exact q F pa σ H j
theorem es_continue : ES B X (.Continue pos) (fun s => some (.ct, s)) := .of ps_continue fun F pa s σ T H D o s' nt j hf q => by cases hf; exact q F pa σ H j
/-- what isn't reached -/
def dNever : DS := fun _ => none
theorem es_never : ES B X st dNever := .of ps_never fun F pa s σ T H D o s' nt j hf q => by cases hf
theorem eb_never : EB B X sts dNever := ⟨PSs.to pss_never fun D σ H ⟨F, pa, s, T, o, s', nt, j, hf, q⟩ => by cases hf⟩
def dExpr (f : DE) : DS := fun s => (f s).map fun r => (.nx, r.2)
theorem es_expr (h : EV B X e f) (hs : swapsWith e none pos.line X.env = pure false := by rfl) : ES B X (.Expr e pos) (dExpr f) := by
  refine .of (ps_expr h.pe hs) fun F pa s σ T H D o s' nt j hf q => ?_
  obtain ⟨⟨x, s1⟩, h1, h2⟩ := Option.map_eq_some_iff.mp hf
  cases h2
  exact ⟨F, pa, s, T, x, _, j, h1, fun F' pa' v H' j' => q F' pa' σ H' j'.pop⟩
def dIfS (c : DT) (f g : DS) : DS := fun s => match c s with
  | some (true, s1) => f s1
  | some (false, s1) => g s1
  | none => none
theorem es_if {sts2 : List Stmt} (hc : ET B X c dt) (ha : EB B X sts fs) (hb : EB B X sts2 gs) : ES B X (.If c sts sts2 pos) (dIfS dt fs gs) := by
  refine .of (ps_if hc.pt ha.ps hb.ps) fun F pa s σ T H D o s' nt j hf q => ?_
  unfold dIfS at hf
  split at hf
  · rename_i s1 h1
    exact ⟨F, pa, s, T, true, s1, j, h1, fun F' pa' H' j' => iteT ⟨F', pa', s1, T, o, s', nt, j', hf, q⟩⟩
  · rename_i s1 h1
    exact ⟨F, pa, s, T, false, s1, j, h1, fun F' pa' H' j' => iteF ⟨F', pa', s1, T, o, s', nt, j', hf, q⟩⟩
  · cases hf

/-! ### return -/
/-- the list that a slot owns leaves it -/
def leave (s : S) : Vl → Option (Vl × S)
  | .sl i => match s.env[i]? with
    | some (some (.own d)) => some (.fr d, { s with env := s.env.set i none })
    | some (some (.fz d)) => some (.fz d, s)
    | _ => none
  | .fz d => some (.fz d, s)
  | .fr d => some (.fr d, s)
  | .pt => some (.pt, s)
  | .gr => none
  | .ob _ => none
theorem set_none_at {i j : Nat} {y : Sl} (h : (s.env.set i none)[j]? = some (some y)) : i ≠ j ∧ s.env[j]? = some (some y) := by
  rcases get_set h with ⟨_, b, _⟩ | h
  · cases b
  · exact h
theorem J.leaveOwn {i : Nat} {d : PyData} {v : V} (j : J B F pa s σ ((.sl i, v) :: T) H) (nt : noSl T) (hi : ownAt s i d) : J B F pa { s with env := s.env.set i none } σ ((.fr d, v) :: T) H := by
  have tx := j.tmp _ List.mem_cons_self
  obtain ⟨_, hv⟩ := tx
  obtain ⟨a, ha, ow⟩ := j.own i d hi
  have e := hv.inj ha
  subst e
  have tp := List.pairwise_cons.mp j.tne
  refine ⟨j.sub, j.keep, j.fnew, j.f0, j.pa0, (by show (s.env.set i none).length = _; rw [List.length_set]; exact j.len), fun k e q => j.fzs k e (set_none_at q).2, fun k e q => j.own k e (set_none_at q).2, fun k q => j.pts k (set_none_at q).2,
    fun k l e e' q q' r => j.une k l e e' (set_none_at q).2 (set_none_at q').2 r, fun t ht => ?_, List.pairwise_cons.mpr ⟨fun t ht _ e z => ?_, tp.2⟩, fun t ht e k d' q z => ?_, j.pot, j.ext.of fun _ _ _ h => ⟨(set_none_at h).2, rfl⟩⟩
  · rcases List.mem_cons.mp ht with rfl | ht2
    · exact ⟨a, rfl, ow⟩
    · have h2 := j.tmp t (List.mem_cons_of_mem _ ht2)
      have h3 := nt t ht2
      obtain ⟨y, u⟩ := t
      cases y with
      | fz d => exact h2
      | fr d => exact h2
      | pt => exact h2
      | gr => exact h2
      | ob o => exact h2
      | sl k => cases h3
  · have z' : V.ref a = t.2 := z
    exact j.tse t (List.mem_cons_of_mem _ ht) e i d hi (by rw [← z']; exact ha)
  · rcases List.mem_cons.mp ht with rfl | ht2
    · obtain ⟨ne, q2⟩ := set_none_at q
      exact ne (j.une i k d d' hi q2 (Eq.trans ha (Eq.symm z)))
    · exact j.tse t (List.mem_cons_of_mem _ ht2) e k d' (set_none_at q).2 z
def dRet (f : DE) : DS := fun s => match f s with
  | some (x, s1) => (leave s1 x).map fun r => (.rt r.1, r.2)
  | none => none
theorem es_ret (h : EV B X e f) : ES B X (.Return (some e) pos) (dRet f) := by
  refine .of (ps_ret h.pe) fun F pa s σ T H D o s' nt j hf q => ?_
  unfold dRet at hf
  split at hf
  · rename_i x s1 h1
    obtain ⟨⟨y, s2⟩, h2, h3⟩ := Option.map_eq_some_iff.mp hf
    cases h3
    refine ⟨F, pa, s, T, x, s1, j, h1, fun F' pa' v H' j' => ?_⟩
    cases x with
    | fz d => cases h2; exact q F' pa' σ v H' j'
    | fr d => cases h2; exact q F' pa' σ v H' j'
    | pt => cases h2; exact q F' pa' σ v H' j'
    | gr => cases h2
    | ob o => cases h2
    | sl i =>
      unfold leave at h2
      dsimp only at h2
      split at h2
      · rename_i d hd
        cases h2
        exact q F' pa' σ v H' (j'.leaveOwn nt hd)
      · rename_i d hd
        cases h2
        obtain ⟨_, h5⟩ := j'.tmp _ List.mem_cons_self
        obtain ⟨u, h6, h7⟩ := j'.fzs i d hd
        rw [h5.inj h6] at j' ⊢
        exact q F' pa' σ u H' (j'.pop.pushFz h7)
      · cases h2
  · cases hf
theorem es_retN : ES B X (.Return none pos) (fun s => some (.rt (.fz .none), s)) := .of ps_retN fun F pa s σ T H D o s' nt j hf q => by
  cases hf
  exact q F pa σ .non H (j.pushFz .non)

/-! ### targets -/
theorem offT_of {W : List Nat} (h : noSl T) : offT W T := fun t ht i _ e => by have := h t ht; rw [e] at this; cases this
theorem zip_off {W : List Nat} {xs : List Vl} {vs : List V} (h : ∀ x ∈ xs, x.isSl = false) (hT : offT W T) : offT W (xs.zip vs ++ T) := fun t ht i hi e => by
  rcases List.mem_append.mp ht with h1 | h1
  · have := h t.1 (List.of_mem_zip (a := t.1) (b := t.2) h1).1
    rw [e] at this; cases this
  · exact hT t h1 i hi e
def gVar (i : Nat) : DG := fun x s => match s.env[i]? with
  | some _ => (slOf x).map fun y => s.put i y
  | none => none
theorem eg_name {i : Nat} {x : Str} (hN : X.N.Nodup) (hi : X.N[i]? = some x) (hx : Loc X.env.scope x) (hf : X.fn x = true ∨ X.env.scope.names.lookup x = some .local := by first | exact .inl rfl | exact .inr rfl | assumption) : EG B X [i] (.Name x pos) (gVar i) := by
  refine ⟨PG.to (pg_name hN hi hx hf) fun v σ H Q ⟨F, pa, s, T, y, s', j, hT, hp, q⟩ => ?_⟩
  unfold gVar at hp
  split at hp
  · rename_i z hz
    obtain ⟨w, h1, h2⟩ := Option.map_eq_some_iff.mp hp
    subst h2
    exact q F pa _ H (j.store h1 (fun t ht => hT t ht i List.mem_cons_self) (by rw [← j.len]; exact (List.getElem?_eq_some_iff.mp hz).1)) ⟨List.length_set, fun k hk => List.getElem?_set_ne fun e => hk (by rw [e]; exact List.mem_cons_self)⟩
  · cases hp
def gsNil : DGs := fun xs s => match xs with
  | [] => some s
  | _ => none
def gsCons (p : DG) (r : DGs) : DGs := fun xs s => match xs with
  | x :: xs => match p x s with
    | some s1 => r xs s1
    | none => none
  | [] => none
theorem egs_nil : EGs B X [] [] gsNil := by
  refine ⟨PGs.to pgs_nil fun vs σ H Q ⟨F, pa, s, T, xs, s', hl, j, hT, hp, q⟩ => ?_⟩
  unfold gsNil at hp
  split at hp
  · cases hp
    cases vs with
    | nil => exact ⟨rfl, q F pa σ H j ⟨rfl, fun _ _ => rfl⟩⟩
    | cons _ _ => cases hl
  · cases hp
theorem egs_cons {W W2 : List Nat} (h : EG B X W t pg) (h2 : EGs B X W2 ts pgs) (hs : (assignEach (t :: ts) X.env).map (·.2) = assign t X.env :: (assignEach ts X.env).map (·.2) := by rfl) : EGs B X (W ++ W2) (t :: ts) (gsCons pg pgs) := by
  refine ⟨PGs.to (pgs_cons h.pg h2.pg hs) fun vs σ H Q ⟨F, pa, s, T, xs, s', hl, j, hT, hp, q⟩ => ?_⟩
  unfold gsCons at hp
  split at hp
  · rename_i x xs
    split at hp
    · rename_i s1 h1
      cases vs with
      | nil => cases hl
      | cons v vs =>
        have hT' : offT W (xs.zip vs ++ T) := fun t ht i hi => hT t (List.mem_cons_of_mem _ ht) i (List.mem_append_left _ hi)
        have hT2 : offT W2 (xs.zip vs ++ T) := fun t ht i hi => hT t (List.mem_cons_of_mem _ ht) i (List.mem_append_right _ hi)
        refine ⟨v, vs, rfl, F, pa, s, _, x, s1, j, hT', h1, fun F' pa' σ' H' j' k1 => ?_⟩
        exact ⟨F', pa', s1, T, xs, s', by simpa using hl, j', hT2, hp, fun F2 pa2 σ2 H2 j2 k2 => q F2 pa2 σ2 H2 j2 ⟨k2.1.trans k1.1, fun i hi => (k2.2 i fun z => hi (List.mem_append_right _ z)).trans (k1.2 i fun z => hi (List.mem_append_left _ z))⟩⟩
    · cases hp
  · cases hp
def gTupD (r : DGs) : DG := fun x s => match x with
  | .fz (.tuple ds) => r (ds.map .fz) s
  | _ => none
theorem J.pushAll (j : J B F pa s σ T H) : ∀ {ds : List PyData} {vs : List V}, RepAll B.P B.w B.K F ds vs → J B F pa s σ ((ds.map Vl.fz).zip vs ++ T) H
  | _, _, .nil => j
  | _, _, .cons h t => (j.pushAll t).pushFz h
theorem eg_tup {kx : Nat} {n : Nat} {W : List Nat} (ft : Fit B X k) (h : EGs B X W ts pgs) (hn : (assignEach ts X.env).length = n := by rfl) (hst : (assignEach ts X.env).findIdx? (·.1) = none := by rfl) (hlen : ∀ xs s s', pgs xs s = some s' → xs.length = n) : EG B X W (.Tuple ts kx pos) (gTupD pgs) := by
  refine ⟨PG.to (pg_tup ft.calm h.pg hn hst) fun v σ H Q ⟨F, pa, s, T, y, s', j, hT, hp, q⟩ => ?_⟩
  unfold gTupD at hp
  split at hp
  · rename_i ds
    have r := j.tmp _ List.mem_cons_self
    cases (show B.Rep F (.tuple ds) v from r) with
    | tup e ra =>
      have hl := hlen _ _ _ hp
      rw [List.length_map] at hl
      refine ⟨_, _, rfl, .of (j.sub _ _ e), by rw [← ra.length]; exact hl, F, pa, s, T, ds.map .fz, s', by rw [List.length_map]; exact ra.length, j.pop.pushAll ra, zip_off (fun x hx => ?_) hT, hp, q⟩
      obtain ⟨d, _, rfl⟩ := List.mem_map.mp hx
      rfl
  · cases hp
theorem gsNil_len (xs : List Vl) (s s' : S) (h : gsNil xs s = some s') : xs.length = 0 := by
  unfold gsNil at h
  split at h
  · rfl
  · cases h
theorem gsCons_len {n : Nat} (h : ∀ xs s s', pgs xs s = some s' → xs.length = n) (xs : List Vl) (s s' : S) (q : gsCons pg pgs xs s = some s') : xs.length = n + 1 := by
  unfold gsCons at q
  split at q
  · split at q
    · rw [List.length_cons, h _ _ _ q]
    · cases q
  · cases q

/-! ### stores -/
def unsl (s : S) : Vl → Option (Vl × S)
  | .sl i => (frz s (.sl i)).map fun r => (.fz r.1, r.2)
  | x => some (x, s)
theorem J.unsl {x y : Vl} {v : V} {s' : S} (j : J B F pa s σ ((x, v) :: T) H) (h : Rg.unsl s x = some (y, s')) : y.isSl = false ∧ ∃ F', Same F F' ∧ J B F' pa s' σ ((y, v) :: T) H := by
  unfold Rg.unsl at h
  split at h
  · obtain ⟨⟨d, s1⟩, h1, h2⟩ := Option.map_eq_some_iff.mp h
    cases h2
    exact ⟨rfl, j.frz h1⟩
  · rename_i hne
    cases h
    refine ⟨?_, F, .refl F, j⟩
    cases x with
    | sl i => exact absurd rfl (hne i)
    | _ => rfl
def dAsg (f : DE) (p : DG) : DS := fun s => match f s with
  | some (x, s1) => match unsl s1 x with
    | some (y, s2) => (p y s2).map fun s3 => (.nx, s3)
    | none => none
  | none => none
theorem asg_read {W : List Nat} {F pa s σ T H D o s'} (nt : noSl T) (j : J B F pa s σ T H) (hf : dAsg f pg s = some (o, s')) (q : OutK B D s' T o) : tAsg (tD B f) (tDG B W pg) D σ H := by
  unfold dAsg at hf
  split at hf
  · rename_i x s1 h1
    split at hf
    · rename_i y s2 h2
      obtain ⟨s3, h3, h4⟩ := Option.map_eq_some_iff.mp hf
      cases h4
      refine ⟨F, pa, s, T, x, s1, j, h1, fun F' pa' v H' j' => ?_⟩
      obtain ⟨_, F2, _, j2⟩ := j'.unsl h2
      exact ⟨F2, pa', s2, T, y, _, j2, offT_of nt, h3, fun F' pa' σ' H' j' _ => q F' pa' σ' H' j'⟩
    · cases hf
  · cases hf
theorem es_asg {W : List Nat} (he : EV B X e f) (hg : EG B X W t pg) (hs : swapsWithSole [t] e pos.line X.env = pure false := by rfl) (hw : swappedStores [t] e X.env = pure none := by rfl)
    (h1 : (assignEach [t] X.env).map (·.2) = [assign t X.env] := by rfl) : ES B X (.Assign [t] e pos) (dAsg f pg) :=
  .of (ps_asg he.pe hg.pg hs hw h1) fun F pa s σ T H D o s' nt j hf q => asg_read nt j hf q
/-- name = value -/
theorem es_set {i : Nat} {x : Str} {pos' : Pos} (hN : X.N.Nodup) (hi : X.N[i]? = some x) (hx : Loc X.env.scope x) (he : EV B X e f) (hs : swapsWith e (some (.Name x pos')) pos.line X.env = pure false := by rfl) (hf : X.fn x = true ∨ X.env.scope.names.lookup x = some .local := by first | exact .inl rfl | exact .inr rfl | assumption) :
    ES B X (.Assign [.Name x pos'] e pos) (dAsg f (gVar i)) := by
  refine .of (ps_set hN hi hx he.pe hs hf) fun F pa s σ T H D o s' nt j h q => ?_
  have h' := h
  unfold dAsg at h
  split at h
  · rename_i x s1 h1
    split at h
    · rename_i y s2 h2
      obtain ⟨s3, h3, h4⟩ := Option.map_eq_some_iff.mp h
      cases h4
      refine ⟨F, pa, s, T, x, s1, j, h1, fun F' pa' v H' j' => ?_⟩
      obtain ⟨_, F2, _, j2⟩ := j'.unsl h2
      unfold gVar at h3
      split at h3
      · rename_i z hz
        obtain ⟨w, h5, h6⟩ := Option.map_eq_some_iff.mp h3
        subst h6
        exact q F2 pa' _ H' (j2.store h5 (fun t ht => offT_of (W := [i]) nt t ht i List.mem_cons_self) (by rw [← j2.len]; exact (List.getElem?_eq_some_iff.mp hz).1))
      · cases h3
    · cases h
  · cases h

/-! ### o[i] = value -/
def setIx (c i d : PyData) : Option PyData := match c, i with
  | .list ds, .int n => (ixN ds.length n).map fun m => .list (ds.set m d)
  | .dict ps, k => if kOk k && kind ps k && decide (ps.length < lim) then some (.dict (dput ps k d)) else none
  | _, _ => none
def gIx (fo fi : DE) : DG := fun x s => match x with
  | .pt => none
  | .gr => none
  | .ob _ => none
  | .sl _ => none
  | x => match frz s x with
    | some (d, s1) => match fo s1 with
      | some (.sl n, s2) => match dSet fi s2 with
        | some (y, s3) => match s3.env[n]?, cont s3 y with
          | some (some (.own c)), some di => (setIx c di d).map fun c' => s3.put n (.own c')
          | _, _ => none
        | none => none
      | _ => none
    | none => none
end
end Rg
/-! Rg, part L: stores into lists and dicts, several targets at once, while. -/
namespace Rg
open PySem L2

section
variable {P : Program} {w : World} {K : PySem.W.Frag} {F H : Hp} {h : Heap}
theorem RepK.any {k : PyData} {z : Key} (e : keyK k = some z) : ∀ {ps : List (PyData × PyData)} {kvs : List (Key × V)}, RepK P w K F ps kvs → (ps.any fun p => deq p.1 k) = kvs.any fun kv => decide (kv.1 = z)
  | _, _, .nil => rfl
  | (a, d) :: ps, (y, v) :: kvs, .cons e' r t => by
    rw [List.any_cons, List.any_cons, t.any e, decide_deq]
    have := keyK_iff e' e
    by_cases q : a = k
    · have q2 := this.mp q
      simp [q, q2]
    · have q2 : ¬ y = z := fun z' => q (this.mpr z')
      simp [q, q2]
theorem RepK.mapPut {k d : PyData} {z : Key} {v : V} (e : keyK k = some z) (r : RepD P w K F d v) : ∀ {ps : List (PyData × PyData)} {kvs : List (Key × V)}, RepK P w K F ps kvs →
    RepK P w K F (ps.map fun p => if deq p.1 k then (p.1, d) else p) (kvs.map fun kv => if kv.1 = z then (kv.1, v) else kv)
  | _, _, .nil => .nil
  | (a, d0) :: ps, (y, v0) :: kvs, .cons e' r' t => by
    rw [List.map_cons, List.map_cons]
    have := keyK_iff e' e
    by_cases q : a = k
    · rw [if_pos (this.mp q), (deq_iff a k).mpr q]
      exact .cons e' r (t.mapPut e r)
    · rw [if_neg fun z' => q (this.mpr z'), deq_ne q]
      exact .cons e' r' (t.mapPut e r)
theorem RepK.snoc {k d : PyData} {z : Key} {v : V} (e : keyK k = some z) (r : RepD P w K F d v) : ∀ {ps : List (PyData × PyData)} {kvs : List (Key × V)}, RepK P w K F ps kvs → RepK P w K F (ps ++ [(k, d)]) (kvs ++ [(z, v)])
  | _, _, .nil => .cons e r .nil
  | _, _, .cons e' r' t => .cons e' r' (t.snoc e r)
theorem RepK.put {k d : PyData} {z : Key} {v : V} (e : keyK k = some z) (r : RepD P w K F d v) {ps : List (PyData × PyData)} {kvs : List (Key × V)} (t : RepK P w K F ps kvs) : RepK P w K F (dput ps k d) (putK kvs z v) := by
  unfold dput putK
  rw [t.any e]
  split
  · exact t.mapPut e r
  · exact t.snoc e r
theorem RepN.any {k : PyData} {z : NestedKey} (ok : keyOk k = true) (e : keyN k = some z) : ∀ {ps : List (PyData × PyData)} {xs : List (NestedKey × Addr × Value)}, RepN P w K F ps xs → (ps.any fun p => deq p.1 k) = (atKey xs z).isSome
  | _, _, .nil => rfl
  | (a, d) :: ps, (y, b, u) :: xs, .cons ok' e' _ _ _ _ t => by
    rw [List.any_cons, t.any ok e, decide_deq]
    by_cases q : a = k
    · subst q
      rw [e] at e'; cases e'
      simp [atKey]
    · have q2 : ¬ y = z := fun z' => q (keyN_inj ok' ok e' (z' ▸ e))
      simp [atKey, List.find?_cons, q, q2]
theorem RepN.mapPut {k d : PyData} {z : NestedKey} {v : V} {u : Value} (ok : keyOk k = true) (e : keyN k = some z) (ru : RelV v u) (r : RepD P w K F d v) : ∀ {ps : List (PyData × PyData)} {xs : List (NestedKey × Addr × Value)}, RepN P w K F ps xs →
    RepN P w K F (ps.map fun p => if deq p.1 k then (p.1, d) else p) (xs.map (putAt z u))
  | _, _, .nil => .nil
  | (a, d0) :: ps, (y, b, u0) :: xs, .cons ok' e' hd hk r1 r2 t => by
    rw [List.map_cons, List.map_cons]
    unfold putAt
    by_cases q : a = k
    · subst q
      rw [e] at e'; cases e'
      rw [deq_self]
      simp only [if_true]
      exact .cons ok e hd hk ru r (t.mapPut ok e ru r)
    · have q2 : ¬ y = z := fun z' => q (keyN_inj ok' ok e' (z' ▸ e))
      rw [deq_ne q]
      simp only [q2, if_false, Bool.false_eq_true]
      exact .cons ok' e' hd hk r1 r2 (t.mapPut ok e ru r)
theorem RepN.snoc {k d : PyData} {z : NestedKey} {v : V} {u : Value} {b : Addr} (ok : keyOk k = true) (e : keyN k = some z) (dp : z.depth ≤ 8) (rk : RepD P w K F k (.ref b)) (ru : RelV v u) (r : RepD P w K F d v) : ∀ {ps : List (PyData × PyData)} {xs : List (NestedKey × Addr × Value)}, RepN P w K F ps xs →
    RepN P w K F (ps ++ [(k, d)]) (xs ++ [(z, b, u)])
  | _, _, .nil => .cons ok e dp rk ru r .nil
  | _, _, .cons a1 a2 a3 a4 a5 a6 t => .cons a1 a2 a3 a4 a5 a6 (t.snoc ok e dp rk ru r)
theorem RepN.put {k d : PyData} {z : NestedKey} {v : V} {u : Value} {b : Addr} (ok : keyOk k = true) (e : keyN k = some z) (dp : z.depth ≤ 8) (rk : RepD P w K F k (.ref b)) (ru : RelV v u) (r : RepD P w K F d v) {ps : List (PyData × PyData)} {xs : List (NestedKey × Addr × Value)} (t : RepN P w K F ps xs) :
    RepN P w K F (dput ps k d) (storedH xs z b u) := by
  unfold dput storedH
  rw [t.any ok e]
  split
  · exact t.mapPut ok e ru r
  · exact t.snoc ok e dp rk ru r
theorem storedH_ne {xs : List (NestedKey × Addr × Value)} {z : NestedKey} {b : Addr} {u : Value} : storedH xs z b u ≠ [] := by
  unfold storedH
  split
  · rename_i h
    cases xs with
    | nil => simp [atKey] at h
    | cons _ _ => simp
  · simp
theorem storedH_le (xs : List (NestedKey × Addr × Value)) (z : NestedKey) (b : Addr) (u : Value) : (storedH xs z b u).length ≤ xs.length + 1 := by
  unfold storedH
  split <;> simp
end

section
variable {B : Bs} {X : Cx} {k : Nat} {F : Hp} {pa : Option (Addr × Addr)} {s : S} {σ : St} {T : List (Vl × V)} {H : Hp}
variable {st : Stmt} {sts : List Stmt} {e a b c t o i : Expr} {es ts : List Expr} {f fo fi : DE} {fs gs : DS} {g : DEs} {pos p apos cpos : Pos} {dt : DT} {pg : DG} {pgs : DGs}

/-- a[y] = v, a dict: of ints and texts, of tuples, empty and a tuple comes -/
def rSetDict (P : Program) (w : World) (K : PySem.W.Frag) : TSet := fun x y v H Q => ∃ a, x = .ref a ∧
  ((∃ kvs z, H a = some (.dK kvs) ∧ y = kV z ∧ kvs.length < sizeLine ∧ Q (upd H a (.dK (putK kvs z v)))) ∨
   (∃ xs ps kd z b n, H a = some (dN P w a xs n) ∧ RepN P w K H ps xs ∧ xs.length < sizeLine ∧ y = .ref b ∧ RepD P w K H kd (.ref b) ∧ kOk kd = true ∧ keyN kd = some z ∧ ∀ u n, RelV v u → Q (upd H a (dN P w a (storedH xs z b u) n))) ∨
   (∃ kd z b, H a = some (.dK []) ∧ y = .ref b ∧ RepD P w K H kd (.ref b) ∧ kOk kd = true ∧ keyN kd = some z ∧ ∀ u n, RelV v u → Q (upd H a (dN P w a [(z, b, u)] n))))
theorem set_dict (hu : X.A.units + 64 < cLine) : PSet X (rSetDict X.prog X.w X.K) := by
  intro pins s σ H x y v ov iv u Q I rx ry rv h
  obtain ⟨a, rfl, h⟩ := h
  cases rx
  rcases h with ⟨kvs, z, e, ey, hl, q⟩ | ⟨xs, ps, kd, z, b, n, e, rn, hl, ey, rk, ok, ez, q⟩ | ⟨kd, z, b, e, ey, rk, ok, ez, q⟩
  · subst ey
    exact d_setItem (by omega) I (.k e hl) ry rv fun s' I' => ⟨_, I', q⟩
  · subst ey
    cases ry
    obtain ⟨z', ez', _, hz⟩ := rk.nkey I.hok ok
    rw [ez] at ez'; cases ez'
    obtain ⟨h1, h2, h3⟩ := dictOfH_of I.hok e rn
    refine wpAny_setItem_heap (hsz := h2) (nroom hu) hz h3 fun h' hm' hs => ?_
    have he : ∃ q, h'.get? a = some q := let ⟨q, _, _, hq, _⟩ := hm'; ⟨q, hq⟩
    have hle := storedH_le xs z b u
    obtain ⟨m, rm⟩ := rawN_of h1 (by omega) hm'
    exact ⟨_, d_write I (by rw [e]; exact True.intro) hs he (dN_ok rm), q u m rv⟩
  · subst ey
    cases ry
    obtain ⟨z', ez', _, hz⟩ := rk.nkey I.hok ok
    rw [ez] at ez'; cases ez'
    obtain ⟨h1, h3⟩ := dictOfH_nil I.hok e
    refine wpAny_setItem_heap (hsz := Nat.zero_le _) (nroom hu) hz h3 fun h' hm' hs => ?_
    have he : ∃ q, h'.get? a = some q := let ⟨q, _, _, hq, _⟩ := hm'; ⟨q, hq⟩
    obtain ⟨m, rm⟩ := rawN_of h1 (by rw [sizeLine_eq]; show 1 ≤ 16777216; decide) hm'
    exact ⟨_, d_write I (by rw [e]; exact True.intro) hs he (dN_ok rm), q u m rv⟩
theorem PSet.or {t u : TSet} (h : PSet X t) (h' : PSet X u) : PSet X (fun o i v H Q => t o i v H Q ∨ u o i v H Q) := by
  intro pins s σ H x y v ov iv uu Q I rx ry rv q
  rcases q with q | q
  · exact h pins s σ H x y v ov iv uu Q I rx ry rv q
  · exact h' pins s σ H x y v ov iv uu Q I rx ry rv q
theorem setIx_ok {d c c' di : PyData} {a : Addr} {y v : V} {o : HO} {Q : Hp → Prop} (sf : Same F H) (ho : H a = some o) (cl : Cell B.P B.w B.K F c a o) (ri : RepD B.P B.w B.K F di y ∨ (RepD B.P B.w B.K H di y ∧ ∀ b, y ≠ .ref b)) (rd : B.Rep F d v) (h : setIx c di d = some c')
    (q : ∀ o', Cell B.P B.w B.K F c' a o' → Q (upd H a o')) : rSetL (.ref a) y v H Q ∨ rSetDict B.P B.w B.K (.ref a) y v H Q := by
  have riH : RepD B.P B.w B.K H di y := ri.elim (fun r => r.mono (.of_same sf)) fun r => r.1
  unfold setIx at h
  split at h
  · rename_i ds n
    obtain ⟨m, h1, h2⟩ := Option.map_eq_some_iff.mp h
    subst h2
    cases cl with
    | lst r =>
      cases riH
      exact .inl ⟨a, _, n, m, rfl, rfl, ho, by rw [← r.length]; exact h1, q _ (.lst (r.set rd m))⟩
  · rename_i ps hne
    split at h
    · rename_i hc
      cases h
      simp only [Bool.and_eq_true, decide_eq_true_eq] at hc
      obtain ⟨⟨hk, hkd⟩, hl⟩ := hc
      have ok : keyOk di = true := ((Bool.and_eq_true _ _).mp hk).1
      refine .inr ⟨a, rfl, ?_⟩
      cases cl with
      | dK r =>
        cases tt : isTup di with
        | false =>
          obtain ⟨z, hz⟩ := keyK_of ok tt
          exact .inl ⟨_, z, ho, rep_key hz riH, by rw [← r.length]; exact lim_lt (Nat.le_of_lt hl), q _ (.dK (r.put hz rd))⟩
        | true =>
          obtain ⟨b, hb⟩ := rep_tup tt riH
          subst hb
          have riF : RepD B.P B.w B.K F di (.ref b) := ri.elim id fun r => absurd rfl (r.2 b)
          cases r with
          | nil =>
            obtain ⟨z, hz⟩ := keyN_some ok
            refine .inr (.inr ⟨di, z, b, ho, rfl, riH, hk, hz, fun u _ ru => q _ (.dN (by simp) ?_)⟩)
            exact .cons ok hz (by rw [keyN_depth hz]; exact of_decide_eq_true ((Bool.and_eq_true _ _).mp hk).2) riF ru rd .nil
          | cons e1 _ _ =>
            unfold kind at hkd
            simp [tt, keyK_notTup e1] at hkd
      | dN n r =>
        have tt : isTup di = true := by
          cases r with
          | nil => exact absurd rfl n
          | cons o1 e1 d1 k1 r1 r2 t1 =>
            have hd' : (isTup _ == isTup di) = true := hkd
            rw [keyOk_tup o1 k1] at hd'
            simpa using hd'.symm
        obtain ⟨b, hb⟩ := rep_tup tt riH
        subst hb
        have riF : RepD B.P B.w B.K F di (.ref b) := ri.elim id fun r => absurd rfl (r.2 b)
        obtain ⟨z, hz⟩ := keyN_some ok
        refine .inr (.inl ⟨_, _, di, z, b, _, ho, r.mono (.of_same sf), by rw [← r.length]; exact lim_lt (Nat.le_of_lt hl), rfl, riH, hk, hz, fun u _ ru => q _ (.dN storedH_ne ?_)⟩)
        exact r.put ok hz (by rw [keyN_depth hz]; exact of_decide_eq_true ((Bool.and_eq_true _ _).mp hk).2) riF ru rd
    · cases h
  · cases h
theorem top_ri {d : PyData} {y : V} (h : B.Top F H d y) (hk : keyOk d = true ∨ ∃ n, d = .int n) (sf : Same F H) : RepD B.P B.w B.K F d y ∨ (RepD B.P B.w B.K H d y ∧ ∀ b, y ≠ .ref b) := by
  cases h with
  | non => exact .inl .non
  | bl b => exact .inl (.bl b)
  | int b => exact .inl (.int b)
  | str b => exact .inl (.str b)
  | tup e r => exact .inl (.tup e r)
  | lst e r => rcases hk with hk | ⟨n, hk⟩ <;> simp [keyOk] at hk
  | dK e r => rcases hk with hk | ⟨n, hk⟩ <;> simp [keyOk] at hk
  | dN e n r => rcases hk with hk | ⟨n, hk⟩ <;> simp [keyOk] at hk
theorem setIx_key {c d di c' : PyData} (h : setIx c di d = some c') : keyOk di = true ∨ ∃ n, di = .int n := by
  unfold setIx at h
  split at h
  · exact .inr ⟨_, rfl⟩
  · split at h
    · rename_i hc
      simp only [Bool.and_eq_true] at hc
      exact .inl ((Bool.and_eq_true _ _).mp hc.1.1).1
    · cases h
  · cases h
theorem eg_ix (ft : Fit B X k) (ho : EV B X o fo) (hi : EV B X i fi)
    (ha : ∀ v, assign (.Subscript o i pos) X.env v = (do
      let ov ← holding [v] (eval o X.env)
      let iv ← holding [v, ov] (eval i X.env)
      standAt pos
      holding [v, ov, iv] (setItem ov iv v)
      release [v, ov, iv] []) := by intro _; rfl) : EG B X [] (.Subscript o i pos) (gIx fo fi) := by
  refine ⟨PG.to (pg_sub ho.pe hi.set.pe (PSet.or set_list (set_dict ft.room.r.units)) ha) fun v σ H Q ⟨F, pa, s, T, x, s', j, hT, hp, q⟩ => ?_⟩
  unfold gIx at hp
  split at hp
  · cases hp
  · cases hp
  · cases hp
  · cases hp
  · split at hp
    · rename_i d s1 hd
      obtain ⟨F0, _, j0⟩ := j.frz hd
      split at hp
      · rename_i n s2 h2
        split at hp
        · rename_i y s3 h3
          split at hp
          · rename_i cc di hcc hdi
            obtain ⟨c', h5, h6⟩ := Option.map_eq_some_iff.mp hp
            subst h6
            refine ⟨F0, pa, s1, _, _, s2, j0, h2, fun F1 pa1 oo H1 j1 => ?_⟩
            refine ⟨F1, pa1, s2, _, y, s3, j1, h3, fun F2 pa2 ii H2 j2 => ?_⟩
            obtain ⟨aa, haa, ow⟩ := j2.own n cc hcc
            have ho : oo = .ref aa := by
              obtain ⟨_, h7⟩ := j2.tmp _ (List.mem_cons_of_mem _ List.mem_cons_self)
              exact h7.inj haa
            subst ho
            obtain ⟨o1, ho1, cl⟩ := ow.cell
            have rv : B.Rep F2 d v := j2.tmp (.fz d, v) (List.mem_cons_of_mem _ (List.mem_cons_of_mem _ List.mem_cons_self))
            have ti := TOk.top j2 (j2.tmp _ List.mem_cons_self) hdi
            have key := setIx_ok (B := B) (Q := fun H' => Q σ H') j2.sub ho1 cl (top_ri ti (setIx_key h5) j2.sub) rv h5 fun o' c2 => q F2 pa2 σ _ (((j2.mut hcc haa c2).pop2).pop) ⟨rfl, fun _ _ => rfl⟩
            rw [ft.p, ft.w, ft.kk]
            exact key
          · cases hp
        · cases hp
      · cases hp
    · cases hp

/-! ### while -/
def dWhile (c : DT) (b : DS) : Nat → DS
  | 0 => fun _ => none
  | n + 1 => fun s => match c s with
    | some (true, s1) => match b s1 with
      | some (.nx, s2) => dWhile c b n s2
      | some (.ct, s2) => dWhile c b n s2
      | some (.bk, s2) => some (.nx, s2)
      | some (.rt x, s2) => some (.rt x, s2)
      | none => none
    | some (false, s1) => some (.nx, s1)
    | none => none
/-- as many turns as no loop here takes -/
def turnsMax : Nat := 1000000
theorem es_while (hp : PassesOwn (model X.prog X.w) X.A X.env X.xe) (hc : ET B X c dt) (hb : EB B X sts fs) : ES B X (.While c sts [] pos) (dWhile dt fs turnsMax) := by
  generalize turnsMax = N
  refine .of (ps_while hp hc.pt hb.ps) fun F pa s σ T H D o s' nt j hf q => ?_
  refine ⟨fun m σ H => ∃ F pa s, J B F pa s σ T H ∧ dWhile dt fs m s = some (o, s'), ⟨N, F, pa, s, j, hf⟩, ?_⟩
  rintro m σ H ⟨F, pa, s, j, hf⟩
  cases m with
  | zero => cases hf
  | succ m =>
    unfold dWhile at hf
    split at hf
    · rename_i s1 h1
      refine ⟨F, pa, s, T, true, s1, j, h1, fun F1 pa1 H1 j1 => iteT ?_⟩
      refine ⟨fun σ H => ∃ F pa s, J B F pa s σ T H ∧ dWhile dt fs m s = some (o, s'), fun σ' H' h' => ⟨m, Nat.lt_succ_self m, h'⟩, ?_⟩
      split at hf
      · rename_i s2 h2
        exact ⟨F1, pa1, s1, T, .nx, s2, nt, j1, h2, fun F2 pa2 σ2 H2 j2 => ⟨F2, pa2, s2, j2, hf⟩⟩
      · rename_i s2 h2
        exact ⟨F1, pa1, s1, T, .ct, s2, nt, j1, h2, fun F2 pa2 σ2 H2 j2 => ⟨F2, pa2, s2, j2, hf⟩⟩
      · rename_i s2 h2
        cases hf
        exact ⟨F1, pa1, s1, T, .bk, s', nt, j1, h2, fun F2 pa2 σ2 H2 j2 => q F2 pa2 σ2 H2 j2⟩
      · rename_i x s2 h2
        cases hf
        exact ⟨F1, pa1, s1, T, .rt x, s', nt, j1, h2, fun F2 pa2 σ2 v H2 j2 => q F2 pa2 σ2 v H2 j2⟩
      · cases hf
    · rename_i s1 h1
      cases hf
      exact ⟨F, pa, s, T, false, s', j, h1, fun F1 pa1 H1 j1 => iteF (q F1 pa1 σ H1 j1)⟩
    · cases hf
end
end Rg
/-! Rg, part M: a, b = x, y; what a loop walks; for. -/
namespace Rg
open PySem L2

section
variable {B : Bs} {X : Cx} {k : Nat} {F : Hp} {pa : Option (Addr × Addr)} {s : S} {σ : St} {T T2 : List (Vl × V)} {H : Hp}
variable {st : Stmt} {sts : List Stmt} {e a b c t o i tg iter : Expr} {es ts : List Expr} {f fa fb fc : DE} {fs gs : DS} {g : DEs} {pos p apos cpos : Pos} {dt : DT} {pg : DG} {pgs : DGs} {W : List Nat}

theorem J.perm (j : J B F pa s σ T H) (h : T.Perm T2) : J B F pa s σ T2 H :=
  ⟨j.sub, j.keep, j.fnew, j.f0, j.pa0, j.len, j.fzs, j.own, j.pts, j.une, fun t ht => j.tmp t (h.mem_iff.mpr ht),
    (h.pairwise_iff (fun {x y} r h1 h2 e => r h2 h1 e.symm)).mp j.tne, fun t ht => j.tse t (h.mem_iff.mpr ht), j.pot, j.ext⟩
theorem onT_perm : ∀ (xs : List Vl) (vs : List V) (T : List (Vl × V)), (onT xs vs T).Perm (xs.zip vs ++ T)
  | [], _, T => .refl T
  | _ :: _, [], T => .refl T
  | x :: xs, v :: vs, T => (onT_perm xs vs _).trans List.perm_middle

/-! ### several at once -/
def dConsP (f : DE) (g : DEs) : DEs := fun s => match f s with
  | some (x, s1) => match unsl s1 x with
    | some (y, s2) => match g s2 with
      | some (ys, s3) => some (y :: ys, s3)
      | none => none
    | none => none
  | none => none
theorem ea_consP (h : EV B X e f) (hr : EA B X es g) (hs : starEach (e :: es) X.env = (false, eval e X.env) :: starEach es X.env := by rfl) : EA B X (e :: es) (dConsP f g) := by
  refine ⟨PA.to (pa_cons h.pe hr.pa hs) fun σ H Q ⟨F, pa, s, T, xs, s', j, hf, q⟩ => ?_⟩
  unfold dConsP at hf
  split at hf
  · rename_i x s1 h1
    split at hf
    · rename_i y s2 h2
      split at hf
      · rename_i ys s3 h3
        cases hf
        refine ⟨F, pa, s, T, x, s1, j, h1, fun F1 pa1 v H1 j1 => ?_⟩
        obtain ⟨_, F2, _, j2⟩ := j1.unsl h2
        exact ⟨F2, pa1, s2, _, ys, _, j2, h3, fun F3 pa3 vs H3 hl j3 => q F3 pa3 (v :: vs) H3 (by simp [hl]) j3⟩
      · cases hf
    · cases hf
  · cases hf
/-- none of the values is a slot's own -/
def noSls : List Vl → Bool
  | [] => true
  | x :: xs => !x.isSl && noSls xs
theorem noSls_mem : ∀ {xs : List Vl}, noSls xs = true → ∀ x ∈ xs, x.isSl = false
  | [], _, x, h => by cases h
  | y :: ys, hn, x, h => by
    simp only [noSls, Bool.and_eq_true, Bool.not_eq_true'] at hn
    rcases List.mem_cons.mp h with rfl | h
    · exact hn.1
    · exact noSls_mem hn.2 x h
def dPar (g : DEs) (r : DGs) : DS := fun s => match g s with
  | some (xs, s1) => if noSls xs then (r xs s1).map fun s2 => (.nx, s2) else none
  | none => none
theorem es_par {kt kx n : Nat} {pt px : Pos} (ft : Fit B X k) (h : EA B X es g) (hg : EGs B X W ts pgs) (hn : (assignEach ts X.env).length = n := by rfl) (hst : (assignEach ts X.env).findIdx? (·.1) = none := by rfl) (hlen : ∀ xs s s', pgs xs s = some s' → xs.length = n) (hnn : n ≤ lim := by decide)
    (hs : swapsWithSole [.Tuple ts kt pt] (.Tuple es kx px) pos.line X.env = pure false := by rfl) (hw : swappedStores [.Tuple ts kt pt] (.Tuple es kx px) X.env = pure none := by rfl)
    (h1 : (assignEach [.Tuple ts kt pt] X.env).map (·.2) = [assign (.Tuple ts kt pt) X.env] := by rfl) : ES B X (.Assign [.Tuple ts kt pt] (.Tuple es kx px) pos) (dPar g pgs) := by
  refine .of (ps_asg (pe_tup h.pa) (pg_tup ft.calm hg.pg hn hst) hs hw h1) fun F pa s σ T H D o s' nt j hf q => ?_
  unfold dPar at hf
  split at hf
  · rename_i xs s1 h2
    split at hf
    · rename_i hns
      obtain ⟨s2, h3, h4⟩ := Option.map_eq_some_iff.mp hf
      cases h4
      refine ⟨F, pa, s, T, xs, s1, j, h2, fun F1 pa1 vs H1 hl j1 => ⟨?_, fun p hp => ?_⟩⟩
      · rw [← hl, hlen _ _ _ h3]; exact lim_ok hnn
      · refine ⟨p, vs, rfl, .of upd_same, by rw [← hl]; exact hlen _ _ _ h3, F1, pa1, s1, T, xs, s', hl, (j1.perm (onT_perm xs vs T)).junk hp _, zip_off (noSls_mem hns) (offT_of nt), h3, fun F2 pa2 σ2 H2 j2 _ => q F2 pa2 σ2 H2 j2⟩
    · cases hf
  · cases hf
theorem noSl_cons {x : Vl} {v : V} (h : x.isSl = false) (hT : noSl T) : noSl ((x, v) :: T) := fun t ht => by
  rcases List.mem_cons.mp ht with rfl | ht
  · exact h
  · exact hT t ht
theorem gVar_at {n : Nat} {x : Vl} {s' : S} (h : gVar n x s = some s') : ∃ y, slOf x = some y ∧ s' = s.put n y ∧ n < s.env.length := by
  unfold gVar at h
  split at h
  · rename_i z hz
    obtain ⟨w, h5, h6⟩ := Option.map_eq_some_iff.mp h
    exact ⟨w, h5, h6.symm, (List.getElem?_eq_some_iff.mp hz).1⟩
  · cases h
theorem es_par2 {m n : Nat} {x y : Str} {px py pt : Pos} {kt k2 pt2} (ft : Fit B X k) (hN : X.N.Nodup) (hi : X.N[m]? = some x) (hj : X.N[n]? = some y) (hij : m ≠ n)
    (hx : X.env.scope.names.lookup x = some .local) (hy : X.env.scope.names.lookup y = some .local) (ha : EA B X [a, b] g)
    (hw : swappedStores [.Tuple [.Name x px, .Name y py] kt pt] (.Tuple [a, b] k2 pt2) X.env = pure (some [x, y]) := by rfl)
    (hs : swapsWithSole [.Tuple [.Name x px, .Name y py] kt pt] (.Tuple [a, b] k2 pt2) pos.line X.env = pure false := by rfl) :
    ES B X (.Assign [.Tuple [.Name x px, .Name y py] kt pt] (.Tuple [a, b] k2 pt2) pos) (dPar g (gsCons (gVar m) (gsCons (gVar n) gsNil))) := by
  refine .of (ps_par ft.calm hN hi hj hij hx hy ha.pa hw hs) fun F pa s σ T H D o s' nt j hf q => ?_
  unfold dPar at hf
  split at hf
  · rename_i xs s1 h2
    split at hf
    · rename_i hns
      obtain ⟨s2, h3, h4⟩ := Option.map_eq_some_iff.mp hf
      cases h4
      refine ⟨F, pa, s, T, xs, s1, j, h2, fun F1 pa1 vs H1 hl j1 => ?_⟩
      have hl2 := gsCons_len (gsCons_len gsNil_len) _ _ _ h3
      match xs, vs, hl, hl2, h3, hns, j1 with
      | [u, u'], [v, v'], hl, hl2, h3, hns, j1 =>
        have j2 : J B F1 pa1 s1 σ ((u, v) :: (u', v') :: T) H1 := j1.perm (onT_perm _ _ T)
        have n1 := noSls_mem hns u (by simp)
        have n2 := noSls_mem hns u' (by simp)
        unfold gsCons at h3
        dsimp only at h3
        split at h3
        · rename_i s3 e3
          split at h3
          · rename_i s4 e4
            unfold gsNil at h3
            cases h3
            obtain ⟨y1, a1, a2, a3⟩ := gVar_at e3
            obtain ⟨y2, b1, b2, b3⟩ := gVar_at e4
            have j3 := j2.store a1 (fun t ht => offT_of (W := [m]) (noSl_cons n2 nt) t ht m (by simp)) (by rw [← j2.len]; exact a3)
            rw [← a2] at j3
            have j4 := j3.store b1 (fun t ht => offT_of (W := [n]) nt t ht n (by simp)) (by rw [← j3.len]; exact b3)
            rw [← b2] at j4
            exact ⟨v, v', rfl, q F1 pa1 _ _ j4⟩
          · cases h3
        · cases h3
    · cases hf
  · cases hf
theorem es_par3 {m n l : Nat} {x y z : Str} {px py pz pt : Pos} {kt k2 pt2} (ft : Fit B X k) (hN : X.N.Nodup) (hi : X.N[m]? = some x) (hj : X.N[n]? = some y) (hl : X.N[l]? = some z) (hij : m ≠ n) (hil : m ≠ l) (hjl : n ≠ l)
    (hx : X.env.scope.names.lookup x = some .local) (hy : X.env.scope.names.lookup y = some .local) (hz : X.env.scope.names.lookup z = some .local) (ha : EA B X [a, b, c] g)
    (hw : swappedStores [.Tuple [.Name x px, .Name y py, .Name z pz] kt pt] (.Tuple [a, b, c] k2 pt2) X.env = pure (some [x, y, z]) := by rfl)
    (hs : swapsWithSole [.Tuple [.Name x px, .Name y py, .Name z pz] kt pt] (.Tuple [a, b, c] k2 pt2) pos.line X.env = pure false := by rfl) :
    ES B X (.Assign [.Tuple [.Name x px, .Name y py, .Name z pz] kt pt] (.Tuple [a, b, c] k2 pt2) pos) (dPar g (gsCons (gVar m) (gsCons (gVar n) (gsCons (gVar l) gsNil)))) := by
  refine .of (ps_par3 ft.calm hN hi hj hl hij hil hjl hx hy hz ha.pa hw hs) fun F pa s σ T H D o s' nt j hf q => ?_
  unfold dPar at hf
  split at hf
  · rename_i xs s1 h2
    split at hf
    · rename_i hns
      obtain ⟨s2, h3, h4⟩ := Option.map_eq_some_iff.mp hf
      cases h4
      refine ⟨F, pa, s, T, xs, s1, j, h2, fun F1 pa1 vs H1 hl j1 => ?_⟩
      have hl2 := gsCons_len (gsCons_len (gsCons_len gsNil_len)) _ _ _ h3
      match xs, vs, hl, hl2, h3, hns, j1 with
      | [u, u', u2], [v, v', v2], hl, hl2, h3, hns, j1 =>
        have j2 : J B F1 pa1 s1 σ ((u, v) :: (u', v') :: (u2, v2) :: T) H1 := j1.perm (onT_perm _ _ T)
        have n1 := noSls_mem hns u (by simp)
        have n2 := noSls_mem hns u' (by simp)
        have n3 := noSls_mem hns u2 (by simp)
        unfold gsCons at h3
        dsimp only at h3
        split at h3
        · rename_i s3 e3
          split at h3
          · rename_i s4 e4
            split at h3
            · rename_i s5 e5
              unfold gsNil at h3
              cases h3
              obtain ⟨y1, a1, a2, a3⟩ := gVar_at e3
              obtain ⟨y2, b1, b2, b3⟩ := gVar_at e4
              obtain ⟨y3, c1, c2, c3⟩ := gVar_at e5
              have j3 := j2.store a1 (fun t ht => offT_of (W := [m]) (noSl_cons n2 (noSl_cons n3 nt)) t ht m (by simp)) (by rw [← j2.len]; exact a3)
              rw [← a2] at j3
              have j4 := j3.store b1 (fun t ht => offT_of (W := [n]) (noSl_cons n3 nt) t ht n (by simp)) (by rw [← j3.len]; exact b3)
              rw [← b2] at j4
              have j5 := j4.store c1 (fun t ht => offT_of (W := [l]) nt t ht l (by simp)) (by rw [← j4.len]; exact c3)
              rw [← c2] at j5
              exact ⟨v, v', v2, rfl, q F1 pa1 _ _ j5⟩
            · cases h3
          · cases h3
        · cases h3
    · cases hf
  · cases hf

/-! ### what a loop walks -/
abbrev DI := S → Option (List PyData × S)
structure WalkD (B : Bs) (It : It) (src : List (Vl × V)) (ds : List PyData) : Prop where
  go : ∀ {F pa s σ T H} (i : Nat), J B F pa s σ T H → (∀ t ∈ src, t ∈ T) → i < ds.length → It.go i H
  stop : ∀ {F pa s σ T H}, J B F pa s σ T H → (∀ t ∈ src, t ∈ T) → It.stop ds.length H
  yld : ∀ {F pa s σ T H} (i : Nat) (d : PyData) (x : V) (H' : Hp), J B F pa s σ T H → (∀ t ∈ src, t ∈ T) → ds[i]? = some d → It.yld i H x H' → ∃ F', J B F' pa s σ ((.fz d, x) :: T) H'
theorem WalkD.of {It : It} {n : Nat} {G : Hp → Prop} {Y : Nat → Hp → V → Hp → Prop} {src : List (Vl × V)} {ds : List PyData} (w : Walk It n G Y) (hn : n = ds.length)
    (hG : ∀ {F pa s σ T H}, J B F pa s σ T H → (∀ t ∈ src, t ∈ T) → G H)
    (hY : ∀ {F pa s σ T H} (i : Nat) (d : PyData) (x : V) (H' : Hp), J B F pa s σ T H → (∀ t ∈ src, t ∈ T) → ds[i]? = some d → Y i H x H' → ∃ F', J B F' pa s σ ((.fz d, x) :: T) H') : WalkD B It src ds := by
  subst hn
  exact ⟨fun i j hs hi => w.goes i _ hi (hG j hs), fun j hs => w.stops _ (hG j hs), fun i d x H' j hs hd y => hY i d x H' j hs hd (w.yields i _ x H' (List.getElem?_eq_some_iff.mp hd).1 (hG j hs) y)⟩
theorem walkD_list {a : Addr} {d : List PyData} : WalkD B (Itl B.K a) [(.fz (.list d), .ref a)] d := by
  refine ⟨fun {F pa s σ T H} i j hs hi => ?_, fun {F pa s σ T H} j hs => ?_, fun {F pa s σ T H} i d' x H' j hs hd y => ?_⟩
  all_goals
    have t := j.tmp _ (hs _ List.mem_cons_self)
    cases (show B.Rep F (.list d) (.ref a) from t) with
    | lst e r => ?_
  · exact ⟨_, _, .of (j.sub _ _ e), List.getElem?_eq_getElem (by rw [← r.length]; exact hi)⟩
  · exact ⟨_, .of (j.sub _ _ e), by rw [← r.length]; exact Nat.le_refl _⟩
  · obtain ⟨e1, e2⟩ := y
    subst e1
    have e3 := e2 _ (.of (j.sub _ _ e))
    obtain ⟨v, h1, h2⟩ := r.get hd
    rw [h1] at e3; cases e3
    exact ⟨F, j.pushFz h2⟩
theorem walkD_tup {a : Addr} {d : List PyData} : WalkD B (Itt B.K a) [(.fz (.tuple d), .ref a)] d := by
  refine ⟨fun {F pa s σ T H} i j hs hi => ?_, fun {F pa s σ T H} j hs => ?_, fun {F pa s σ T H} i d' x H' j hs hd y => ?_⟩
  all_goals
    have t := j.tmp _ (hs _ List.mem_cons_self)
    cases (show B.Rep F (.tuple d) (.ref a) from t) with
    | tup e r => ?_
  · exact ⟨_, _, .of (j.sub _ _ e), List.getElem?_eq_getElem (by rw [← r.length]; exact hi)⟩
  · exact ⟨_, .of (j.sub _ _ e), by rw [← r.length]; exact Nat.le_refl _⟩
  · obtain ⟨e1, e2⟩ := y
    subst e1
    have e3 := e2 _ (.of (j.sub _ _ e))
    obtain ⟨v, h1, h2⟩ := r.get hd
    rw [h1] at e3; cases e3
    exact ⟨F, j.pushFz h2⟩
end
end Rg
/-! Rg, part N: the walks: sequences, ranges, enumerate, zip, dicts of tuples. -/
namespace Rg
open PySem L2 PyProof.Rows

/-! ### enumerate(tuple) -/
theorem meets_enumerate_newT (l : Addr) (items : Array Value) :
    Meets (Builtin.«enumerate.__new__» ⟨[.type "enumerate", .ref l], []⟩) (fun _ R s => s.heap.IsTuple l items ∧
      R (.ok (.ret (.ref (s.heap.push { cls := .type "tuple_iterator", data := .fields #[.ref l, .int 0 0] }).objs.size)))
        { s with heap := (s.heap.push { cls := .type "tuple_iterator", data := .fields #[.ref l, .int 0 0] }).push { cls := .type "enumerate", data := .fields #[.none, .bool false, .ref s.heap.objs.size, rawInt 0, .none, .none] } }) :=
  .of_wp fun prog w A R s h => by
    obtain ⟨hp, g, d, tk, os⟩ := s; obtain ⟨hL, h⟩ := h
    have hsub := sub_enumerate
    have hL' : Heap.IsTuple (Shared.heap ⟨hp, g, d, tk, os⟩) l items := hL
    obtain ⟨o, hl, hc, n, hd⟩ := id hL
    wp_walk using AutoSeq1.wpAny_loadPart' hl
    refine wpAny_stack_any fun st => wpAny_pure ?_
    split
    · rename_i c _ _ _ _ _
      cases (c == Value.type "enumerate")
      · wp_walk using AutoSeq1.wpAny_loadPart' hl, wpAny_pyIter_tuple hL'
        exact ⟨_, rfl, h⟩
      · wp_walk using AutoSeq1.wpAny_loadPart' hl, wpAny_pyIter_tuple hL'
        exact ⟨_, rfl, h⟩
    · wp_walk using AutoSeq1.wpAny_loadPart' hl, wpAny_pyIter_tuple hL'
      exact ⟨_, rfl, h⟩
theorem call_enumerate_tuple {prog : Program} {w : World} {A : Around} {E : Value → Shared → Prop} {s : Shared} {l : Addr} {items : Array Value} {Q : Value → Shared → Prop} (hL : s.heap.IsTuple l items)
    (h : ∀ h', IsEnum h' (s.heap.objs.size + 1) s.heap.objs.size 0 .none → h'.IsTupleIter s.heap.objs.size l 0 → h'.objs.size = s.heap.objs.size + 2 →
      (∀ b o, s.heap.get? b = some o → h'.get? b = some o) → Q (.ref (s.heap.objs.size + 1)) { s with heap := h' }) :
    wpAny (model prog w) A (call (.type "enumerate") [.ref l]) Q E s := by
  refine callType_new F.called_enumerate (by decide) (F.typeCall_enumerate_1 _) (F.newCall_enumerate_1 _) (fun obj => F.args_object_init_2 obj _) F.entry_enumerate_new
    (meets_enumerate_newT l items) ⟨hL, ?_⟩
  have hz : (s.heap.push { cls := .type "tuple_iterator", data := .fields #[.ref l, .int 0 0] }).objs.size = s.heap.objs.size + 1 := Heap.size_push ..
  show _ ∧ _
  rw [hz]
  have he : IsEnum ((s.heap.push { cls := .type "tuple_iterator", data := .fields #[.ref l, .int 0 0] }).push
      { cls := .type "enumerate", data := .fields #[.none, .bool false, .ref s.heap.objs.size, rawInt 0, .none, .none] }) (s.heap.objs.size + 1) s.heap.objs.size 0 .none := by
    have := Heap.get?_push_size (s.heap.push { cls := .type "tuple_iterator", data := .fields #[.ref l, .int 0 0] })
      (o := { cls := .type "enumerate", data := .fields #[.none, .bool false, .ref s.heap.objs.size, rawInt 0, .none, .none] }) rfl
    rw [hz] at this; exact this
  refine ⟨⟨_, he, rfl⟩, h _ he ⟨_, Heap.get?_push_of_some _ (Heap.get?_push_size _ rfl), rfl, rfl⟩ (by rw [Heap.size_push, hz]) fun b o x => Heap.get?_push_of_some _ (Heap.get?_push_of_some _ x)⟩

/-- the tuple at a, each item in a new pair -/
def IteT (K : PySem.W.Frag) (a : Addr) : It :=
  ⟨fun i H => ∃ (xs : List V) (x : V), SqT K H a xs ∧ xs[i]? = some x, fun i H v H' => ∃ T x, v = .ref T ∧ H T = none ∧ H' = upd H T (.tup [.int (i : Nat), x]) ∧ ∀ xs, SqT K H a xs → xs[i]? = some x, fun i H => ∃ xs : List V, SqT K H a xs ∧ xs.length ≤ i⟩
theorem turn_enumT {P : Program} {w : World} {K : PySem.W.Frag} {elts : List Expr} {kk : Nat} {tpos : Pos} (a e it : Addr) :
    Turn P w K (.Tuple elts kk tpos) (IteT K a) [e, it] e (fun i h => (∃ old, IsEnum h e it ((i : Nat) : Int) old) ∧ h.IsTupleIter it a i ∧ e ≠ it) where
  mem := by simp
  obj := fun i h st b hb => by
    obtain ⟨⟨old, he⟩, ⟨o, ho, hc, hd⟩, _⟩ := st
    have e' : b = e ∨ b = it := by simpa using hb
    rcases e' with z | z
    · rw [z]; exact ⟨_, he, fun v q => nomatch q⟩
    · rw [z]; exact ⟨o, ho, fun v q => by rw [hd] at q; cases q⟩
  keep := fun i h h' st k => let ⟨⟨old, he⟩, hi, hne⟩ := st; ⟨⟨old, k e (by simp) _ he⟩, hi.at fun o q => k it (by simp) o q, hne⟩
  item := by
    intro X hP hw hK hc i pins s σ H E I hf st hg
    subst hP hw hK
    obtain ⟨⟨old, he⟩, hit, hne⟩ := st
    obtain ⟨xs, x, hq, hx⟩ := hg
    obtain ⟨its, rv, p, hz⟩ := I.tuple hq
    obtain ⟨u, hu, ru⟩ := rv.get hx
    have hel : e < s.heap.objs.size := Heap.lt_size he
    have hil : it < s.heap.objs.size := by obtain ⟨_, q, _⟩ := hit; exact Heap.lt_size q
    have tup : ∀ b, b ∈ [e, it] → b ≠ a := fun b hb z => by
      obtain ⟨o2, p1, p2, _⟩ := id p
      rw [z] at hb
      have e' : a = e ∨ a = it := by simpa using hb
      rcases e' with q | q
      · rw [q, he] at p1; cases p1; injection p2 with z2; exact absurd z2 (by decide)
      · obtain ⟨o3, q1, q2, _⟩ := id hit
        rw [q, q1] at p1; cases p1; rw [q2] at p2; injection p2 with z2; exact absurd z2 (by decide)
    have D := Draws.tuple (prog := X.prog) (w := X.w) (A := X.A.in1) (I.ok.hd hc) it a (Ne.symm (tup it (by simp))) its.toArray
    have hlt : i < its.toArray.size := by
      have := (List.getElem?_eq_some_iff.mp hu).1
      simpa using this
    refine wpAny_pyNext_enum_itemD D he ⟨hit, show s.heap.IsTuple a its.toArray from p⟩ hlt hne (by
      intro hb
      have e' : e = it ∨ e = a := by simpa using hb
      rcases e' with q | q
      · exact hne q
      · exact tup e (by simp) q) fun u' h' tk hP ho hit' hT hsz hk => ?_
    have eu : u' = u := by
      have h3 : its.toArray[i]? = some u' := hP
      rw [List.getElem?_toArray] at h3
      exact Option.some.inj (h3.symm.trans hu)
    subst eu
    refine ⟨_, rfl, wpAny_letOwnedTupleGo_enum (s := { s with heap := h', toks := tk + 1 }) ho fun h'' he' sb => ?_⟩
    have hT2 : h''.get? s.heap.objs.size = some { cls := .type "tuple", data := .seq #[.int i tk, u'] } := (sb.2 _ (Nat.ne_of_gt hel)).trans hT
    have new : ObjOk X.prog X.w (upd H s.heap.objs.size (.tup [.int (i : Nat), x])) h'' s.heap.objs.size (.tup [.int (i : Nat), x]) :=
      ⟨by show 2 ≤ sizeLine; decide, [.int i tk, u'], .cons ⟨_, rfl⟩ (.cons ru .nil), ⟨_, hT2, rfl, _, rfl⟩⟩
    have I1 : Inv X pins σ (upd H s.heap.objs.size (.tup [.int (i : Nat), x])) { s with heap := h'', toks := tk + 1 } :=
      I.turnedNew (ch := [e, it]) (fun b ob hb q => (sb.2 b (fun z => hb (by simp [z]))).trans (hk b ob (fun z => hb (by simp [z])) (fun z => hb (by simp [z])) q)) hf (Nat.le_refl _) new
    refine ⟨.ref s.heap.objs.size, _, I1, rfl, ⟨_, x, rfl, I.hok.fresh (Nat.le_refl _), rfl, fun ys hy => by rw [I.tuple_inj hy hq]; exact hx⟩, ⟨⟨u', ?_⟩, hit'.1.at fun o q => (sb.2 it (Ne.symm hne)).trans q, hne⟩, fun b hb => ?_⟩
    · have e1 : ((i + 1 : Nat) : Int) = (i : Int) + 1 := by omega
      rw [e1]; exact he'
    · have hb' : b < s.heap.objs.size := by
        have e' : b = e ∨ b = it := by simpa using hb
        rcases e' with z | z
        · rw [z]; exact hel
        · rw [z]; exact hil
      rw [upd_ne (Nat.ne_of_lt hb')]
      exact (hf b hb).1
  done := by
    intro X hP hw hK hc i pins s σ H E I hf st hg
    subst hP hw hK
    obtain ⟨⟨old, he⟩, hit, hne⟩ := st
    obtain ⟨xs, hq, hx⟩ := hg
    obtain ⟨its, rv, p, hz⟩ := I.tuple hq
    obtain ⟨f0, f1, f2, f3, f4, f5⟩ := hf it (by simp)
    have hl := rv.length
    have hT : s.TypeIs (.ref e) "enumerate" := ⟨_, he, rfl⟩
    unfold pyNext
    refine wpAny_bind (wpAny_attempt (wpAny_callSpecial?_slot (name := Str.ofString "__next__") hT F.slot_enumerate_next
      (wpAny_call_entry F.slot_enumerate_next hT F.entry_enumerate_next ?_ (F.args_enumerate_next_1 _))))
    show wpAny _ _ (field (.ref e) 2 >>= _) _ _ _
    refine wpAny_bind (wpAny_field he rfl (x := .ref it) rfl ?_)
    refine wpAny_bind (wpAny_nextOf_tuple_end (I.ok.hd hc) hit (show s.heap.IsTuple a its.toArray from p) (by simp; omega) fun h' x he' hx' => ?_)
    obtain ⟨o, ho, hc'⟩ := hx'
    refine wpAny_bind (wpAny_isInstance (T := "StopIteration") (b := true) ⟨o, ho, hc'⟩ isSubtype_stop ?_)
    exact wpAny_pure ⟨rfl, I.turned (t' := s.toks) (fun b o hb q => he' b o hb q) f0 f1 f3 f4 f5⟩
  self := fun A i s Q E st h => let ⟨⟨_, he⟩, _⟩ := st; wpAny_pyIter_enum he h
theorem walk_enumT {K : PySem.W.Frag} {a : Addr} {xs : List V} : Walk (IteT K a) xs.length (fun H => SqT K H a xs) (YPair (fun i => some (.int (i : Nat))) (fun i => xs[i]?)) := by
  refine ⟨fun i _ hi q => ⟨xs, xs[i], q, by simp [hi]⟩, fun _ q => ⟨xs, q, Nat.le_refl _⟩, fun i H v H' _ q y => ?_⟩
  obtain ⟨T, x, h1, h2, h3, h4⟩ := y
  exact ⟨T, .int (i : Nat), x, h1, h2, h3, rfl, h4 xs q⟩
def iEnumA (K : PySem.W.Frag) (ta : TA) : TI := fun σ H R => ta σ H fun vs H1 => ∃ a xs, vs = [.ref a] ∧ ((SqL K H1 a xs ∧ R (Ite K a) H1) ∨ (SqT K H1 a xs ∧ R (IteT K a) H1))
theorem pi_enumA {X : Cx} {e : Expr} {ta : TA} {p pos tpos : Pos} {elts : List Expr} {kk : Nat} (hg : Gl X "enumerate") (hm : X.mg "enumerate" = none) (ha : PA X [e] ta) (hs : starEach [e] X.env = [(false, eval e X.env)] := by rfl) :
    PI X (.Tuple elts kk tpos) (.Call (.Name "enumerate" p) [e] [] pos) (iEnumA X.K ta) := by
  refine ⟨fun pins s σ H R I h => ?_⟩
  refine Call_ (ld_blt I hg hm boot_enumerate (PyProof.Rows.callWith_type1 (thn (ha.run pos pins s σ H _ I h) fun us s1 ⟨vs, H1, I1, r1, q1⟩ => ?_) hs rfl))
  obtain ⟨a, xs, ex, q1⟩ := q1
  subst ex
  cases r1 with
  | cons r rr =>
    cases rr
    cases r
    have fp2 : ∀ b ∈ [s1.heap.objs.size + 1, s1.heap.objs.size], FpOk X pins H1 b := fun b hb => by
      have e' : b = s1.heap.objs.size + 1 ∨ b = s1.heap.objs.size := by simpa using hb
      have hle : s1.heap.objs.size ≤ b := by
        rcases e' with z | z
        · rw [z]; exact Nat.le_add_right _ _
        · rw [z]; exact Nat.le_refl _
      exact I1.fpOk hle (I1.hok.fresh hle)
    rcases q1 with ⟨hq, q⟩ | ⟨hq, q⟩
    · obtain ⟨its, rv, p', hz⟩ := I1.list hq
      refine call_enumerate_list p'.isList fun h' he hit hsz hk => wpAny_pyIter_enum he ?_
      have I2 : Inv X pins σ H1 { s1 with heap := h' } := I1.kept (t' := s1.toks) hk
      exact ⟨s1.heap.objs.size + 1, [s1.heap.objs.size + 1, s1.heap.objs.size], _, _, H1, rfl, I2, turn_enum a (s1.heap.objs.size + 1) s1.heap.objs.size, ⟨⟨.none, he⟩, hit, Nat.succ_ne_self _⟩, fp2, q⟩
    · obtain ⟨its, rv, p', hz⟩ := I1.tuple hq
      refine call_enumerate_tuple (show s1.heap.IsTuple a its.toArray from p') fun h' he hit hsz hk => wpAny_pyIter_enum he ?_
      have I2 : Inv X pins σ H1 { s1 with heap := h' } := I1.kept (t' := s1.toks) hk
      exact ⟨s1.heap.objs.size + 1, [s1.heap.objs.size + 1, s1.heap.objs.size], _, _, H1, rfl, I2, turn_enumT a (s1.heap.objs.size + 1) s1.heap.objs.size, ⟨⟨.none, he⟩, hit, Nat.succ_ne_self _⟩, fp2, q⟩
end Rg
/-! Rg, part O: the walks of a dict whose keys are tuples; the walks told by data; for. -/
namespace Rg
open PySem L2 PyProof.Rows

section
variable {P : Program} {w : World} {K : PySem.W.Frag}
theorem raw_of {H : Hp} {h : Heap} (ok : HOk P w H h) {d : Addr} {xs : List (NestedKey × Addr × Value)} {n : Nat} (e : H d = some (dN P w d xs n)) :
    (d == sysModules) = false ∧ xs.length ≤ sizeLine ∧ ∃ es, h.DictRaw d es n ∧ es.size = xs.length ∧ ∀ i (hi : i < es.size), ∃ y, xs[i]? = some y ∧ es[i].key = .ref y.2.1 ∧ es[i].val = y.2.2 := by
  obtain ⟨⟨h1, h2, h3, o, es, h4, h5, h6, h7⟩, _⟩ := ok d _ e
  have hs := size_of_entries h7
  refine ⟨h1, h2, es, ⟨o, h4, h5, h6⟩, hs, fun i hi => ?_⟩
  have hx : i < xs.length := hs ▸ hi
  have e := entry_at h7 i
  rw [Array.getElem?_eq_getElem hi, List.getElem?_eq_getElem hx, Option.map_some] at e
  have e' := Option.some.inj e
  exact ⟨xs[i], List.getElem?_eq_getElem hx, by rw [e']; rfl, by rw [e']; rfl⟩
/-- for k in d -/
def InK (P : Program) (w : World) (d : Addr) (xs : List (NestedKey × Addr × Value)) (n : Nat) : It :=
  ⟨fun i H => H d = some (dN P w d xs n) ∧ i < xs.length, fun i H x H' => H' = H ∧ ∃ y, xs[i]? = some y ∧ x = .ref y.2.1, fun i H => H d = some (dN P w d xs n) ∧ xs.length ≤ i⟩
def InV (P : Program) (w : World) (d : Addr) (xs : List (NestedKey × Addr × Value)) (n : Nat) : It :=
  ⟨fun i H => H d = some (dN P w d xs n) ∧ ∃ y v, xs[i]? = some y ∧ RelV v y.2.2, fun i H x H' => H' = H ∧ ∃ y, xs[i]? = some y ∧ RelV x y.2.2, fun i H => H d = some (dN P w d xs n) ∧ xs.length ≤ i⟩
def InI (P : Program) (w : World) (d : Addr) (xs : List (NestedKey × Addr × Value)) (n : Nat) : It :=
  ⟨fun i H => H d = some (dN P w d xs n) ∧ ∃ y v, xs[i]? = some y ∧ RelV v y.2.2, fun i H x H' => ∃ T y v, x = .ref T ∧ H T = none ∧ H' = upd H T (.tup [.ref y.2.1, v]) ∧ xs[i]? = some y ∧ RelV v y.2.2,
    fun i H => H d = some (dN P w d xs n) ∧ xs.length ≤ i⟩
variable {d : Addr} {xs : List (NestedKey × Addr × Value)} {n : Nat} {tg : Expr}
theorem turn_nk (it : Addr) : Turn P w K tg (InK P w d xs n) [it] it (fun i h => h.IsKeyIter it d i xs.length n) where
  mem := by simp
  obj := fun i h st b hb => by
    have e : b = it := by simpa using hb
    subst e
    obtain ⟨oi, e, c, dd⟩ := st
    exact ⟨oi, e, fun v z => by rw [dd] at z; cases z⟩
  keep := fun i h h' st k => st.at fun oi e => k it (by simp) oi e
  item := by
    intro X hP hw hK hc i pins s σ H E I hf st hg
    subst hP hw hK
    obtain ⟨hd, hi⟩ := hg
    obtain ⟨f0, f1, f2, f3, f4, f5⟩ := hf it (by simp)
    obtain ⟨_, _, es, hr, hs, hx⟩ := raw_of I.hok hd
    rw [← hs] at st hi
    obtain ⟨y, hy, k1, k2⟩ := hx i hi
    refine wpAny_pyNext_keys_item_raw st hr hi fun h' st' sb => ?_
    have I1 : Inv X pins σ H { s with heap := h' } := I.turned (t' := s.toks) (fun b ob hb e => (sb.2 b hb).trans e) f0 f1 f3 f4 f5
    obtain ⟨oi, e, c, dd⟩ := id st'
    refine ⟨es[i].key, rfl, go_of (s := { s with heap := h' }) e c dd (by decide) ⟨.ref y.2.1, H, I1, k1, ⟨rfl, y, hy, rfl⟩, ?_, fun b hb => (hf b hb).1⟩⟩
    show h'.IsKeyIter it d (i + 1) xs.length n
    rw [← hs]; exact st'
  done := by
    intro X hP hw hK hc i pins s σ H E I hf st hg
    subst hP hw hK
    obtain ⟨hd, hi⟩ := hg
    obtain ⟨f0, f1, f2, f3, f4, f5⟩ := hf it (by simp)
    obtain ⟨_, _, es, hr, hs, hx⟩ := raw_of I.hok hd
    rw [← hs] at st hi
    exact wpAny_pyNext_keys_end_raw (I.ok.hd hc) st hr hi fun h' eb => ⟨rfl, I.turned (t' := s.toks) (fun b ob hb e => eb b ob hb e) f0 f1 f3 f4 f5⟩
  self := fun A i s Q E st h => by
    refine wpAny_pyIter_slot st.typeIs F.slot_dict_keyiterator_iter (wpAny_call_entry F.slot_dict_keyiterator_iter st.typeIs F.entry_dict_keyiterator_iter ?_ (F.args_dict_keyiterator_iter_1 _))
    show wpAny _ _ (ret (.ref it)) _ _ s
    exact wpAny_pure ⟨_, rfl, "dict_keyiterator", _, st.typeIs, F.slot_dict_keyiterator_next.lookup, h⟩
theorem turn_nv (it : Addr) : Turn P w K tg (InV P w d xs n) [it] it (fun i h => h.IsValIter it d i xs.length n) where
  mem := by simp
  obj := fun i h st b hb => by
    have e : b = it := by simpa using hb
    subst e
    obtain ⟨oi, e, c, dd⟩ := st
    exact ⟨oi, e, fun v z => by rw [dd] at z; cases z⟩
  keep := fun i h h' st k => st.at fun oi e => k it (by simp) oi e
  item := by
    intro X hP hw hK hc i pins s σ H E I hf st hg
    subst hP hw hK
    obtain ⟨hd, y, v, hy, rv⟩ := hg
    obtain ⟨f0, f1, f2, f3, f4, f5⟩ := hf it (by simp)
    obtain ⟨_, _, es, hr, hs, hx⟩ := raw_of I.hok hd
    have hi : i < es.size := by rw [hs]; exact (List.getElem?_eq_some_iff.mp hy).1
    rw [← hs] at st
    obtain ⟨y', hy', k1, k2⟩ := hx i hi
    rw [hy] at hy'; cases hy'
    refine wpAny_pyNext_values_item_raw st hr hi fun h' st' sb => ?_
    have I1 : Inv X pins σ H { s with heap := h' } := I.turned (t' := s.toks) (fun b ob hb e => (sb.2 b hb).trans e) f0 f1 f3 f4 f5
    obtain ⟨oi, e, c, dd⟩ := id st'
    refine ⟨es[i].val, rfl, go_of (s := { s with heap := h' }) e c dd (by decide) ⟨v, H, I1, by rw [k2]; exact rv, ⟨rfl, y, hy, rv⟩, ?_, fun b hb => (hf b hb).1⟩⟩
    show h'.IsValIter it d (i + 1) xs.length n
    rw [← hs]; exact st'
  done := by
    intro X hP hw hK hc i pins s σ H E I hf st hg
    subst hP hw hK
    obtain ⟨hd, hi⟩ := hg
    obtain ⟨f0, f1, f2, f3, f4, f5⟩ := hf it (by simp)
    obtain ⟨_, _, es, hr, hs, hx⟩ := raw_of I.hok hd
    rw [← hs] at st hi
    exact wpAny_pyNext_values_end_raw (I.ok.hd hc) st hr hi fun h' eb => ⟨rfl, I.turned (t' := s.toks) (fun b ob hb e => eb b ob hb e) f0 f1 f3 f4 f5⟩
  self := fun A i s Q E st h => wpAny_pyIter_valiter st h
theorem turn_ni {elts : List Expr} {kk : Nat} {tpos : Pos} (it : Addr) : Turn P w K (.Tuple elts kk tpos) (InI P w d xs n) [it] it (fun i h => ∃ ok ov, IsItemIter h it d i xs.length n ok ov) where
  mem := by simp
  obj := fun i h st b hb => by
    have e : b = it := by simpa using hb
    subst e
    obtain ⟨ok, ov, e⟩ := st
    exact ⟨_, e, fun v z => nomatch z⟩
  keep := fun i h h' st k => let ⟨ok, ov, e⟩ := st; ⟨ok, ov, k it (by simp) _ e⟩
  item := by
    intro X hP hw hK hc i pins s σ H E I hf st hg
    subst hP hw hK
    obtain ⟨hd, y, v, hy, rv⟩ := hg
    obtain ⟨_, _, es, hr, hs, hx⟩ := raw_of I.hok hd
    have hi : i < es.size := by rw [hs]; exact (List.getElem?_eq_some_iff.mp hy).1
    obtain ⟨ok, ov, he⟩ := st
    rw [← hs] at he
    obtain ⟨y', hy', k1, k2⟩ := hx i hi
    rw [hy] at hy'; cases hy'
    have hlt : it < s.heap.objs.size := Heap.lt_size he
    refine wpAny_pyNext_items_item_raw he hr hi fun h' ho hT hz hk => ?_
    refine ⟨_, rfl, wpAny_letOwnedTupleGo_items (s := { s with heap := h' }) ho fun h'' he' sb => ?_⟩
    rw [k1, k2] at hT
    have hT2 : h''.get? s.heap.objs.size = some { cls := .type "tuple", data := .seq #[.ref y.2.1, y.2.2] } := (sb.2 _ (Nat.ne_of_gt hlt)).trans hT
    have new : ObjOk X.prog X.w (upd H s.heap.objs.size (.tup [.ref y.2.1, v])) h'' s.heap.objs.size (.tup [.ref y.2.1, v]) :=
      ⟨by show 2 ≤ sizeLine; decide, [.ref y.2.1, y.2.2], .cons rfl (.cons rv .nil), ⟨_, hT2, rfl, _, rfl⟩⟩
    have I1 : Inv X pins σ (upd H s.heap.objs.size (.tup [.ref y.2.1, v])) { s with heap := h'' } :=
      I.turnedNew (t' := s.toks) (ch := [it]) (fun b ob hb e => (sb.2 b (by simpa using hb)).trans (hk b ob (by simpa using hb) e)) hf (Nat.le_refl _) new
    refine ⟨.ref s.heap.objs.size, _, I1, rfl, ⟨_, y, v, rfl, I.hok.fresh (Nat.le_refl _), rfl, hy, rv⟩, ⟨es[i].key, es[i].val, ?_⟩, fun b hb => ?_⟩
    · rw [← hs]; exact he'
    · have e : b = it := by simpa using hb
      rw [e, upd_ne (Nat.ne_of_lt hlt)]
      exact (hf it (by simp)).1
  done := by
    intro X hP hw hK hc i pins s σ H E I hf st hg
    subst hP hw hK
    obtain ⟨hd, hi⟩ := hg
    obtain ⟨f0, f1, f2, f3, f4, f5⟩ := hf it (by simp)
    obtain ⟨_, _, es, hr, hs, hx⟩ := raw_of I.hok hd
    obtain ⟨ok, ov, he⟩ := st
    rw [← hs] at he hi
    exact wpAny_pyNext_items_end_raw (I.ok.hd hc) he hr hi fun h' eb => ⟨rfl, I.turned (t' := s.toks) (fun b ob hb e => eb b ob hb e) f0 f1 f3 f4 f5⟩
  self := fun A i s Q E st h => let ⟨_, _, e⟩ := st; PySem.W.kcp_self e h
end

section
variable {X : Cx} {tg e : Expr} {te : TE} {apos cpos : Pos}
/-- a list, a tuple, a dict's keys -/
def iAny (P : Program) (w : World) (K : PySem.W.Frag) (te : TE) : TI := fun σ H R => te σ H fun x H1 => ∃ a, x = .ref a ∧
  ((∃ xs, SqL K H1 a xs ∧ R (Itl K a) H1) ∨ (∃ xs, SqT K H1 a xs ∧ R (Itt K a) H1) ∨ (∃ xs n, H1 a = some (dN P w a xs n) ∧ R (InK P w a xs n) H1))
theorem pi_any (he : PE X e te) : PI X tg e (iAny X.prog X.w X.K te) := by
  refine ⟨fun pins s σ H R I h => ?_⟩
  refine thn (he.run pins s σ H _ I h) fun v s1 ⟨x, H1, I1, r1, q1⟩ => ?_
  obtain ⟨a, e, q⟩ := q1
  subst e
  cases r1
  have fp1 : ∀ b ∈ [s1.heap.objs.size], FpOk X pins H1 b := fun b hb => by
    have e : b = s1.heap.objs.size := by simpa using hb
    subst e
    exact I1.fpOk (Nat.le_refl _) (I1.hok.fresh (Nat.le_refl _))
  rcases q with ⟨xs, hq, q⟩ | ⟨xs, hq, q⟩ | ⟨xs, n, hq, q⟩
  · obtain ⟨its, rv, p, hz⟩ := I1.list hq
    refine wpAny_pyIter_list p.isList ?_
    exact ⟨s1.heap.objs.size, [s1.heap.objs.size], _, _, H1, rfl, I1.kept (t' := s1.toks) fun b o e => Heap.get?_push_of_some _ e, turn_list a _, ⟨_, Heap.get?_push_size _ rfl, rfl, rfl⟩, fp1, q⟩
  · obtain ⟨its, rv, p, hz⟩ := I1.tuple hq
    refine wpAny_pyIter_tuple (show s1.heap.IsTuple a its.toArray from p) ?_
    exact ⟨s1.heap.objs.size, [s1.heap.objs.size], _, _, H1, rfl, I1.kept (t' := s1.toks) fun b o e => Heap.get?_push_of_some _ e, turn_tuple a _, ⟨_, Heap.get?_push_size _ rfl, rfl, rfl⟩, fp1, q⟩
  · obtain ⟨h1, _, es, hr, hs, hx⟩ := raw_of I1.hok hq
    refine wpAny_pyIter_dict_raw h1 hr (pi_one (tk := s1.toks) I1 _ (turn_nk _) ⟨_, Heap.get?_push_size _ rfl, rfl, ?_⟩ q)
    rw [hs] <;> rfl
def iItN (P : Program) (w : World) (te : TE) : TI := fun σ H R => te σ H fun x H1 => ∃ a xs n, x = .ref a ∧ H1 a = some (dN P w a xs n) ∧ R (InI P w a xs n) H1
def iVlN (P : Program) (w : World) (te : TE) : TI := fun σ H R => te σ H fun x H1 => ∃ a xs n, x = .ref a ∧ H1 a = some (dN P w a xs n) ∧ R (InV P w a xs n) H1
theorem pi_itN {elts : List Expr} {kk : Nat} {tpos : Pos} (he : PE X e te) (hbase : attributeBase e "items" X.env (eval e X.env) = eval e X.env := by rfl) (hline : (apos.endLine == cpos.line) = true := by rfl) :
    PI X (.Tuple elts kk tpos) (.Call (.Attribute e "items" apos) [] [] cpos) (iItN X.prog X.w te) := by
  refine ⟨fun pins s σ H R I h => ?_⟩
  refine wpAny_Call_method (T := "dict") (id := "dict.items") hbase rfl hline F.plainAttrs_dict F.slot_dict_items F.type_dict_items (thn (he.run pins s σ H _ I h) fun u s1 ⟨x, H1, I1, rx, d, xs, n, ex, hd, q⟩ => ?_)
  subst ex
  obtain rfl : u = Value.ref d := rx
  obtain ⟨hs, _, es, hr, hsz, hx⟩ := raw_of I1.hok hd
  have hr' := hr
  obtain ⟨o, ho, hc, hdt⟩ := hr'
  refine ⟨hr.typeIs, fun a e => by cases e; exact ⟨o, ho, hc.2.1⟩, ?_⟩
  have I2 : Inv X pins σ H1 { s1 with heap := s1.heap.push { cls := .type "dict_items", data := .fields #[.ref d] } } := I1.kept (t' := s1.toks) fun b ob q => Heap.get?_push_of_some _ q
  have fin : wpAny (model X.prog X.w) X.A (pyIter (.ref s1.heap.objs.size)) (PIE X pins σ (.Tuple elts kk tpos) R) X.xe { s1 with heap := s1.heap.push { cls := .type "dict_items", data := .fields #[.ref d] } } := by
    refine wpAny_pyIter_items_raw (d := d) (es := es) (ep := n) ⟨_, Heap.get?_push_size _ rfl, rfl, rfl⟩ (hr.at fun o e => Heap.get?_push_of_some _ e) (pi_one (tk := s1.toks) I2 _ (turn_ni _) ⟨.none, .none, ?_⟩ q)
    rw [hsz]
    exact Heap.get?_push_size _ rfl
  show wpAny _ _ (callWith cpos (.builtin "dict.items") [.ref d] [] []) _ X.xe s1
  exact method_meetsIn F.slot_dict_items F.entry_dict_items rfl (PySem.evalArgs_none ⟨rfl, hr.typeIs, F.args_dict_items_1 _, _, meets_dict_items_raw d hs, ⟨es, n, hr⟩, fin⟩)
theorem pi_vlN (he : PE X e te) (hbase : attributeBase e "values" X.env (eval e X.env) = eval e X.env := by rfl) (hline : (apos.endLine == cpos.line) = true := by rfl) :
    PI X tg (.Call (.Attribute e "values" apos) [] [] cpos) (iVlN X.prog X.w te) := by
  refine ⟨fun pins s σ H R I h => ?_⟩
  refine wpAny_Call_method (T := "dict") (id := "dict.values") hbase rfl hline F.plainAttrs_dict F.slot_dict_values F.type_dict_values (thn (he.run pins s σ H _ I h) fun u s1 ⟨x, H1, I1, rx, d, xs, n, ex, hd, q⟩ => ?_)
  subst ex
  obtain rfl : u = Value.ref d := rx
  obtain ⟨hs, _, es, hr, hsz, hx⟩ := raw_of I1.hok hd
  have hr' := hr
  obtain ⟨o, ho, hc, hdt⟩ := hr'
  refine ⟨hr.typeIs, fun a e => by cases e; exact ⟨o, ho, hc.2.1⟩, ?_⟩
  have I2 : Inv X pins σ H1 { s1 with heap := s1.heap.push { cls := .type "dict_values", data := .fields #[.ref d] } } := I1.kept (t' := s1.toks) fun b ob q => Heap.get?_push_of_some _ q
  have fin : wpAny (model X.prog X.w) X.A (pyIter (.ref s1.heap.objs.size)) (PIE X pins σ tg R) X.xe { s1 with heap := s1.heap.push { cls := .type "dict_values", data := .fields #[.ref d] } } := by
    refine wpAny_pyIter_values_raw (d := d) (es := es) (ep := n) ⟨_, Heap.get?_push_size _ rfl, rfl, rfl⟩ (hr.at fun o e => Heap.get?_push_of_some _ e) (pi_one (tk := s1.toks) I2 _ (turn_nv _) ⟨_, Heap.get?_push_size _ rfl, rfl, ?_⟩ q)
    rw [hsz] <;> rfl
  show wpAny _ _ (callWith cpos (.builtin "dict.values") [.ref d] [] []) _ X.xe s1
  exact method_meetsIn F.slot_dict_values F.entry_dict_values rfl (PySem.evalArgs_none ⟨rfl, hr.typeIs, F.args_dict_values_1 _, _, meets_dict_values_raw d hs, ⟨es, n, hr⟩, fin⟩)
end
end Rg
/-! Rg, part P: what is walked, told by data; for. -/
namespace Rg
open PySem L2

section
variable {B : Bs} {X : Cx} {k : Nat} {F : Hp} {pa : Option (Addr × Addr)} {s : S} {σ : St} {T T2 : List (Vl × V)} {H : Hp}
variable {st : Stmt} {sts : List Stmt} {e a b c t o i tg iter : Expr} {es ts : List Expr} {f fa fb fc : DE} {fs gs : DS} {g : DEs} {pos p apos cpos : Pos} {dt : DT} {pg : DG} {pgs : DGs} {W : List Nat} {fi : DI}

/-! ### dicts of tuples -/
theorem RepN.src {P : Program} {w : World} {K : PySem.W.Frag} : ∀ {ps : List (PyData × PyData)} {xs : List (NestedKey × Addr × Value)}, RepN P w K F ps xs → ∃ src : List (Vl × V), (∀ t ∈ src, ∃ d, t.1 = .fz d ∧ RepD P w K F d t.2) ∧
    ∀ (i : Nat) p, ps[i]? = some p → ∃ y v, xs[i]? = some y ∧ RelV v y.2.2 ∧ ((Vl.fz p.1, V.ref y.2.1) : Vl × V) ∈ src ∧ ((Vl.fz p.2, v) : Vl × V) ∈ src
  | _, _, .nil => ⟨[], fun t h => (nomatch h), fun i p e => by simp at e⟩
  | _, _, .cons (k := k) (d := d) (a := a) (v := v) o e dp rk ru r t => by
    obtain ⟨src, h1, h2⟩ := t.src
    refine ⟨(.fz k, .ref a) :: (.fz d, v) :: src, fun t ht => ?_, fun i p q => ?_⟩
    · rcases List.mem_cons.mp ht with rfl | ht
      · exact ⟨k, rfl, rk⟩
      · rcases List.mem_cons.mp ht with rfl | ht
        · exact ⟨d, rfl, r⟩
        · exact h1 t ht
    · cases i with
      | zero =>
        simp at q
        subst q
        exact ⟨_, v, rfl, ru, by simp, by simp⟩
      | succ i =>
        obtain ⟨y, v2, g1, g2, g3, g4⟩ := h2 i p (by simpa using q)
        exact ⟨y, v2, by simpa using g1, g2, List.mem_cons_of_mem _ (List.mem_cons_of_mem _ g3), List.mem_cons_of_mem _ (List.mem_cons_of_mem _ g4)⟩
theorem J.pushL (j : J B F pa s σ T H) : ∀ {src : List (Vl × V)}, (∀ t ∈ src, ∃ d, t.1 = .fz d ∧ B.Rep F d t.2) → J B F pa s σ (src ++ T) H
  | [], _ => j
  | (x, v) :: src, h => by
    obtain ⟨d, e, r⟩ := h _ List.mem_cons_self
    have e' : x = .fz d := e
    subst e'
    exact (j.pushL fun t ht => h t (List.mem_cons_of_mem _ ht)).pushFz r
/-- a dict of tuples, by its first key -/
def isTD : List (PyData × PyData) → Bool
  | (k, _) :: _ => isTup k
  | [] => false
theorem rep_dN {P : Program} {w : World} {K : PySem.W.Frag} {ps : List (PyData × PyData)} {v : V} (h : isTD ps = true) (r : RepD P w K F (.dict ps) v) : ∃ a xs n, v = .ref a ∧ F a = some (dN P w a xs n) ∧ RepN P w K F ps xs := by
  cases r with
  | dK e r =>
    cases r with
    | nil => cases h
    | cons e1 _ _ => have h2 : isTup _ = true := h; rw [keyK_notTup e1] at h2; cases h2
  | dN e _ r => exact ⟨_, _, _, rfl, e, r⟩
def allFz (src : List (Vl × V)) : Prop := ∀ t ∈ src, t.1.isFr = false ∧ t.1.isSl = false
def tDI (B : Bs) (f : DI) : TI := fun σ H R => ∃ F pa s T ds s', J B F pa s σ T H ∧ f s = some (ds, s') ∧ ∀ F' pa' H' It src, allFz src → J B F' pa' s' σ (src ++ T) H' → WalkD B It src ds → R It H'
structure EI (B : Bs) (X : Cx) (tg iter : Expr) (f : DI) : Prop where
  pi : PI X tg iter (tDI B f)
theorem PI.to {wi ui : TI} (h : PI X tg iter wi) (k : ∀ σ H R, ui σ H R → wi σ H R) : PI X tg iter ui := ⟨fun pins s σ H R I hq => h.run pins s σ H R I (k σ H R hq)⟩
theorem EI.of {wi : TI} {d : DI} (h : PI X tg iter wi) (k : ∀ F pa s σ T H R ds s', J B F pa s σ T H → d s = some (ds, s') → (∀ F' pa' H' It src, allFz src → J B F' pa' s' σ (src ++ T) H' → WalkD B It src ds → R It H') → wi σ H R) : EI B X tg iter d :=
  ⟨PI.to h fun σ H R ⟨F, pa, s, T, ds, s', j, hf, q⟩ => k F pa s σ T H R ds s' j hf q⟩
theorem fz1 {d : PyData} {v : V} : allFz [(.fz d, v)] := fun t ht => by
  have e : t = (.fz d, v) := by simpa using ht
  subst e
  exact ⟨rfl, rfl⟩
/-- the stack of a dict's walk -/
theorem dict_src (j : J B F pa s σ T H) {a : Addr} {xs : List (NestedKey × Addr × Value)} {n : Nat} {ps : List (PyData × PyData)} (e : F a = some (dN B.P B.w a xs n)) (r : RepN B.P B.w B.K F ps xs) :
    ∃ src, allFz src ∧ J B F pa s σ (src ++ T) H ∧ ((Vl.ob (dN B.P B.w a xs n), V.ref a) : Vl × V) ∈ src ∧ ∀ (i : Nat) p, ps[i]? = some p → ∃ y v, xs[i]? = some y ∧ RelV v y.2.2 ∧ ((Vl.fz p.1, V.ref y.2.1) : Vl × V) ∈ src ∧ ((Vl.fz p.2, v) : Vl × V) ∈ src := by
  obtain ⟨src, h1, h2⟩ := r.src
  refine ⟨(.ob (dN B.P B.w a xs n), .ref a) :: src, fun t ht => ?_, (j.pushL h1).push rfl ⟨a, rfl, e⟩, List.mem_cons_self, fun i p q => ?_⟩
  · rcases List.mem_cons.mp ht with rfl | ht
    · exact ⟨rfl, rfl⟩
    · obtain ⟨d, e, _⟩ := h1 t ht
      rw [e]; exact ⟨rfl, rfl⟩
  · obtain ⟨y, v, g1, g2, g3, g4⟩ := h2 i p q
    exact ⟨y, v, g1, g2, List.mem_cons_of_mem _ g3, List.mem_cons_of_mem _ g4⟩
theorem ob_at (j : J B F pa s σ T H) {a : Addr} {o : HO} (h : ((Vl.ob o, V.ref a) : Vl × V) ∈ T) : H a = some o := by
  obtain ⟨b, e1, e2⟩ := j.tmp _ h
  cases e1
  exact j.sub _ _ e2
/-! ### a list, a tuple, a dict's keys -/
def dAny (f : DE) : DI := fun s => match f s with
  | some (x, s1) => match frz s1 x with
    | some (.list ds, s2) => some (ds, s2)
    | some (.tuple ds, s2) => some (ds, s2)
    | some (.dict ps, s2) => if isTD ps then some (ps.map (·.1), s2) else none
    | _ => none
  | none => none
theorem ei_any (ft : Fit B X k) (h : EV B X e f) : EI B X tg e (dAny f) := by
  refine .of (pi_any h.pe) fun F pa s σ T H R ds s' j hf q => ?_
  unfold dAny at hf
  split at hf
  · rename_i x s1 h1
    refine ⟨F, pa, s, T, x, s1, j, h1, fun F1 pa1 v H1 j1 => ?_⟩
    rw [ft.p, ft.w, ft.kk]
    split at hf
    · rename_i ds' s2 h2
      cases hf
      obtain ⟨F2, _, j2⟩ := j1.frz h2
      have t := j2.tmp _ List.mem_cons_self
      cases (show B.Rep F2 (.list ds) v from t) with
      | lst e r => exact ⟨_, rfl, .inl ⟨_, .of (j2.sub _ _ e), q F2 pa1 H1 _ [(.fz (.list ds), _)] fz1 j2 walkD_list⟩⟩
    · rename_i ds' s2 h2
      cases hf
      obtain ⟨F2, _, j2⟩ := j1.frz h2
      have t := j2.tmp _ List.mem_cons_self
      cases (show B.Rep F2 (.tuple ds) v from t) with
      | tup e r => exact ⟨_, rfl, .inr (.inl ⟨_, .of (j2.sub _ _ e), q F2 pa1 H1 _ [(.fz (.tuple ds), _)] fz1 j2 walkD_tup⟩)⟩
    · rename_i ps s2 h2
      split at hf
      · rename_i hn
        cases hf
        obtain ⟨F2, _, j2⟩ := j1.frz h2
        obtain ⟨a, xs, n, e1, e2, r⟩ := rep_dN hn (j2.tmp _ List.mem_cons_self)
        subst e1
        obtain ⟨src, g1, g2, g3, g4⟩ := dict_src j2.pop e2 r
        refine ⟨_, rfl, .inr (.inr ⟨xs, n, j2.sub _ _ e2, q F2 pa1 H1 _ src g1 g2 ⟨fun {F pa s σ T H} i j hs hi => ?_, fun {F pa s σ T H} j hs => ?_, fun {F pa s σ T H} i d' x H' j hs hd y => ?_⟩⟩)⟩
        · rw [List.length_map, r.length] at hi
          exact ⟨ob_at j (hs _ g3), hi⟩
        · exact ⟨ob_at j (hs _ g3), by rw [List.length_map, r.length]; exact Nat.le_refl _⟩
        · obtain ⟨e3, y', h3, h4⟩ := y
          subst e3 h4
          rw [List.getElem?_map] at hd
          obtain ⟨p', hp, ep⟩ := Option.map_eq_some_iff.mp hd
          subst ep
          obtain ⟨y2, v2, k1, k2, k3, k4⟩ := g4 i p' hp
          rw [h3] at k1; cases k1
          exact ⟨F, j.pushFz (j.tmp _ (hs _ k3))⟩
      · cases hf
    · cases hf
  · cases hf
/-! ### d.items(), d.values() -/
def dItems (f : DE) : DI := fun s => match f s with
  | some (x, s1) => match frz s1 x with
    | some (.dict ps, s2) => if isTD ps then some (ps.map (fun p => .tuple [p.1, p.2]), s2) else none
    | _ => none
  | none => none
def dValues (f : DE) : DI := fun s => match f s with
  | some (x, s1) => match frz s1 x with
    | some (.dict ps, s2) => if isTD ps then some (ps.map (·.2), s2) else none
    | _ => none
  | none => none
theorem ei_items {elts : List Expr} {kk : Nat} {tpos : Pos} (ft : Fit B X k) (h : EV B X e f) (hbase : attributeBase e "items" X.env (eval e X.env) = eval e X.env := by rfl) (hline : (apos.endLine == cpos.line) = true := by rfl) :
    EI B X (.Tuple elts kk tpos) (.Call (.Attribute e "items" apos) [] [] cpos) (dItems f) := by
  refine .of (pi_itN h.pe hbase hline) fun F pa s σ T H R ds s' j hf q => ?_
  unfold dItems at hf
  split at hf
  · rename_i x s1 h1
    refine ⟨F, pa, s, T, x, s1, j, h1, fun F1 pa1 v H1 j1 => ?_⟩
    rw [ft.p, ft.w]
    split at hf
    · rename_i ps s2 h2
      split at hf
      · rename_i hn
        cases hf
        obtain ⟨F2, _, j2⟩ := j1.frz h2
        obtain ⟨a, xs, n, e1, e2, r⟩ := rep_dN hn (j2.tmp _ List.mem_cons_self)
        subst e1
        obtain ⟨src, g1, g2, g3, g4⟩ := dict_src j2.pop e2 r
        refine ⟨_, xs, n, rfl, j2.sub _ _ e2, q F2 pa1 H1 _ src g1 g2 ⟨fun {F pa s σ T H} i j hs hi => ?_, fun {F pa s σ T H} j hs => ?_, fun {F pa s σ T H} i d' x H' j hs hd y => ?_⟩⟩
        · rw [List.length_map] at hi
          obtain ⟨y2, v2, k1, k2, k3, k4⟩ := g4 i ps[i] (List.getElem?_eq_getElem hi)
          exact ⟨ob_at j (hs _ g3), y2, v2, k1, k2⟩
        · exact ⟨ob_at j (hs _ g3), by rw [List.length_map, r.length]; exact Nat.le_refl _⟩
        · obtain ⟨T', y', v', e3, e4, e5, h3, h4⟩ := y
          subst e3 e5
          rw [List.getElem?_map] at hd
          obtain ⟨p', hp, ep⟩ := Option.map_eq_some_iff.mp hd
          subst ep
          obtain ⟨y2, v2, k1, k2, k3, k4⟩ := g4 i p' hp
          rw [h3] at k1; cases k1
          have ev := h4.inj k2
          subst ev
          exact ⟨_, j.newTup e4 (.cons (j.tmp _ (hs _ k3)) (.one (j.tmp _ (hs _ k4))))⟩
      · cases hf
    · cases hf
  · cases hf
theorem ei_values (ft : Fit B X k) (h : EV B X e f) (hbase : attributeBase e "values" X.env (eval e X.env) = eval e X.env := by rfl) (hline : (apos.endLine == cpos.line) = true := by rfl) :
    EI B X tg (.Call (.Attribute e "values" apos) [] [] cpos) (dValues f) := by
  refine .of (pi_vlN h.pe hbase hline) fun F pa s σ T H R ds s' j hf q => ?_
  unfold dValues at hf
  split at hf
  · rename_i x s1 h1
    refine ⟨F, pa, s, T, x, s1, j, h1, fun F1 pa1 v H1 j1 => ?_⟩
    rw [ft.p, ft.w]
    split at hf
    · rename_i ps s2 h2
      split at hf
      · rename_i hn
        cases hf
        obtain ⟨F2, _, j2⟩ := j1.frz h2
        obtain ⟨a, xs, n, e1, e2, r⟩ := rep_dN hn (j2.tmp _ List.mem_cons_self)
        subst e1
        obtain ⟨src, g1, g2, g3, g4⟩ := dict_src j2.pop e2 r
        refine ⟨_, xs, n, rfl, j2.sub _ _ e2, q F2 pa1 H1 _ src g1 g2 ⟨fun {F pa s σ T H} i j hs hi => ?_, fun {F pa s σ T H} j hs => ?_, fun {F pa s σ T H} i d' x H' j hs hd y => ?_⟩⟩
        · rw [List.length_map] at hi
          obtain ⟨y2, v2, k1, k2, k3, k4⟩ := g4 i ps[i] (List.getElem?_eq_getElem hi)
          exact ⟨ob_at j (hs _ g3), y2, v2, k1, k2⟩
        · exact ⟨ob_at j (hs _ g3), by rw [List.length_map, r.length]; exact Nat.le_refl _⟩
        · obtain ⟨e3, y', h3, h4⟩ := y
          subst e3
          rw [List.getElem?_map] at hd
          obtain ⟨p', hp, ep⟩ := Option.map_eq_some_iff.mp hd
          subst ep
          obtain ⟨y2, v2, k1, k2, k3, k4⟩ := g4 i p' hp
          rw [h3] at k1; cases k1
          have ev := h4.inj k2
          subst ev
          exact ⟨F, j.pushFz (j.tmp _ (hs _ k4))⟩
      · cases hf
    · cases hf
  · cases hf
/-! ### range -/
def small62 (i : Int) : Bool := decide (-4611686018427387904 ≤ i) && decide (i < 4611686018427387904)
theorem small62_iff {i : Int} (h : small62 i = true) : -(2 ^ 62) ≤ i ∧ i < 2 ^ 62 := by
  simp only [small62, Bool.and_eq_true, decide_eq_true_eq] at h
  omega
def rangeD (lo : Int) (c : Int) (n : Nat) : List PyData := (List.range n).map fun i => .int (lo + (i : Nat) * c)
theorem rangeD_len {lo c : Int} {n : Nat} : (rangeD lo c n).length = n := by unfold rangeD; simp
theorem rangeD_at {lo c : Int} {n i : Nat} {d : PyData} (h : (rangeD lo c n)[i]? = some d) : d = .int (lo + (i : Nat) * c) ∧ i < n := by
  unfold rangeD at h
  rw [List.getElem?_map] at h
  obtain ⟨m, h1, h2⟩ := Option.map_eq_some_iff.mp h
  have h3 := List.getElem?_eq_some_iff.mp h1
  obtain ⟨h4, h5⟩ := h3
  simp at h4 h5
  subst h5
  exact ⟨h2.symm, h4⟩
theorem walkD_range {lo : Int} {n : Nat} : WalkD B (Itr lo n) [] (rangeD lo 1 n) := by
  refine ⟨fun {F pa s σ T H} i j hs hi => by rw [rangeD_len] at hi; exact hi, fun {F pa s σ T H} j hs => by rw [rangeD_len]; exact Nat.le_refl _, fun {F pa s σ T H} i d' x H' j hs hd y => ?_⟩
  obtain ⟨e1, e2⟩ := y
  subst e1 e2
  obtain ⟨h1, _⟩ := rangeD_at hd
  subst h1
  rw [Int.mul_one]
  exact ⟨F, j.pushFz (.int _)⟩
theorem walkD_rangeC {lo c : Int} {n : Nat} : WalkD B (Itc lo c n) [] (rangeD lo c n) := by
  refine ⟨fun {F pa s σ T H} i j hs hi => by rw [rangeD_len] at hi; exact hi, fun {F pa s σ T H} j hs => by rw [rangeD_len]; exact Nat.le_refl _, fun {F pa s σ T H} i d' x H' j hs hd y => ?_⟩
  obtain ⟨e1, e2⟩ := y
  subst e1 e2
  obtain ⟨h1, _⟩ := rangeD_at hd
  subst h1
  exact ⟨F, j.pushFz (.int _)⟩
def dRg1 (g : DEs) : DI := fun s => match g s with
  | some ([.fz (.int j)], s1) => if small62 j then some (rangeD 0 1 j.toNat, s1) else none
  | _ => none
def dRg2 (g : DEs) : DI := fun s => match g s with
  | some ([.fz (.int i), .fz (.int j)], s1) => if small62 i && small62 j then some (rangeD i 1 (j - i).toNat, s1) else none
  | _ => none
def dRg3 (g : DEs) : DI := fun s => match g s with
  | some ([.fz (.int i), .fz (.int j), .fz (.int (-1))], s1) => if small62 i && small62 j then some (rangeD i (-1) (i - j).toNat, s1) else none
  | _ => none
theorem fz0 : allFz [] := fun t ht => nomatch ht
theorem ei_rg1 (hg : Gl X "range") (hm : X.mg "range" = none) (ha : EA B X [a] g) (hs : starEach [a] X.env = [(false, eval a X.env)] := by rfl) : EI B X tg (.Call (.Name "range" p) [a] [] pos) (dRg1 g) := by
  refine .of (pi_range1 hg hm ha.pa hs) fun F pa s σ T H R ds s' j hf q => ?_
  unfold dRg1 at hf
  split at hf
  · rename_i n s1 h1
    split at hf
    · rename_i hn
      cases hf
      refine ⟨F, pa, s, T, _, _, j, h1, fun F1 pa1 vs H1 hl j1 => ?_⟩
      match vs, hl, j1 with
      | [v], hl, j1 =>
        have tv : B.Rep F1 (.int n) v := j1.tmp (.fz (.int n), v) List.mem_cons_self
        cases tv
        obtain ⟨s1, s2⟩ := small62_iff hn
        exact ⟨n, rfl, s1, s2, q F1 pa1 H1 _ [] fz0 j1.pop walkD_range⟩
    · cases hf
  · cases hf
theorem ei_rg2 (hg : Gl X "range") (hm : X.mg "range" = none) (ha : EA B X [a, b] g) (hs : starEach [a, b] X.env = [(false, eval a X.env), (false, eval b X.env)] := by rfl) (hs2 : starEach [b] X.env = [(false, eval b X.env)] := by rfl) :
    EI B X tg (.Call (.Name "range" p) [a, b] [] pos) (dRg2 g) := by
  refine .of (pi_range2 hg hm ha.pa hs hs2) fun F pa s σ T H R ds s' j hf q => ?_
  unfold dRg2 at hf
  split at hf
  · rename_i m n s1 h1
    split at hf
    · rename_i hn
      cases hf
      rw [Bool.and_eq_true] at hn
      refine ⟨F, pa, s, T, _, _, j, h1, fun F1 pa1 vs H1 hl j1 => ?_⟩
      match vs, hl, j1 with
      | [u, v], hl, j1 =>
        have tv : B.Rep F1 (.int n) v := j1.tmp (.fz (.int n), v) List.mem_cons_self
        have tu : B.Rep F1 (.int m) u := j1.tmp (.fz (.int m), u) (List.mem_cons_of_mem _ List.mem_cons_self)
        cases tv
        cases tu
        obtain ⟨s1, s2⟩ := small62_iff hn.1
        obtain ⟨s3, s4⟩ := small62_iff hn.2
        exact ⟨m, n, rfl, ⟨s1, s2, s3, s4⟩, q F1 pa1 H1 _ [] fz0 j1.pop2 walkD_range⟩
    · cases hf
  · cases hf
theorem ei_rg3 (hg : Gl X "range") (hm : X.mg "range" = none) (ha : EA B X [a, b, c] g) (hs : starEach [a, b, c] X.env = (false, eval a X.env) :: starEach [b, c] X.env := by rfl) (hpl : (backTo pos (starEach [b, c] X.env)).any (·.1) = false := by rfl) :
    EI B X tg (.Call (.Name "range" p) [a, b, c] [] pos) (dRg3 g) := by
  refine .of (pi_range3 hg hm ha.pa hs hpl) fun F pa s σ T H R ds s' j hf q => ?_
  unfold dRg3 at hf
  split at hf
  · rename_i m n s1 h1
    split at hf
    · rename_i hn
      cases hf
      rw [Bool.and_eq_true] at hn
      refine ⟨F, pa, s, T, _, _, j, h1, fun F1 pa1 vs H1 hl j1 => ?_⟩
      match vs, hl, j1 with
      | [u, v, w], hl, j1 =>
        have tw : B.Rep F1 (.int (-1)) w := j1.tmp (.fz (.int (-1)), w) List.mem_cons_self
        have tv : B.Rep F1 (.int n) v := j1.tmp (.fz (.int n), v) (List.mem_cons_of_mem _ List.mem_cons_self)
        have tu : B.Rep F1 (.int m) u := j1.tmp (.fz (.int m), u) (List.mem_cons_of_mem _ (List.mem_cons_of_mem _ List.mem_cons_self))
        cases tv
        cases tu
        cases tw
        obtain ⟨s1, s2⟩ := small62_iff hn.1
        obtain ⟨s3, s4⟩ := small62_iff hn.2
        exact ⟨m, n, -1, _, rfl, RgC.neg s1 s2 s3 s4, q F1 pa1 H1 _ [] fz0 j1.pop2.pop walkD_rangeC⟩
    · cases hf
  · cases hf
/-! ### enumerate, zip -/
theorem lst_of {a : Addr} {ds : List PyData} (h : B.Rep F (.list ds) (.ref a)) : ∃ vs, F a = some (.lst vs) ∧ RepAll B.P B.w B.K F ds vs := by
  cases h with
  | lst e r => exact ⟨_, e, r⟩
theorem tup_of {a : Addr} {ds : List PyData} (h : B.Rep F (.tuple ds) (.ref a)) : ∃ vs, F a = some (.tup vs) ∧ RepAll B.P B.w B.K F ds vs := by
  cases h with
  | tup e r => exact ⟨_, e, r⟩
def enumD : Nat → List PyData → List PyData
  | _, [] => []
  | n, d :: ds => .tuple [.int n, d] :: enumD (n + 1) ds
theorem enumD_at : ∀ {ds : List PyData} {n i : Nat}, (enumD n ds)[i]? = ds[i]?.map fun d => .tuple [.int ((n + i : Nat) : Int), d]
  | [], n, i => by simp [enumD]
  | d :: ds, n, 0 => by simp [enumD]
  | d :: ds, n, i + 1 => by
    rw [enumD, List.getElem?_cons_succ, List.getElem?_cons_succ, enumD_at]
    congr 2
    funext d
    rw [Nat.add_right_comm, Nat.add_assoc]
theorem enumD_len : ∀ {ds : List PyData} {n : Nat}, (enumD n ds).length = ds.length
  | [], n => rfl
  | d :: ds, n => by rw [enumD, List.length_cons, List.length_cons, enumD_len]
def dEnum (g : DEs) : DI := fun s => match g s with
  | some ([x], s1) => match frz s1 x with
    | some (.list ds, s2) => some (enumD 0 ds, s2)
    | some (.tuple ds, s2) => some (enumD 0 ds, s2)
    | _ => none
  | _ => none
theorem ei_enum {elts : List Expr} {kk : Nat} {tpos : Pos} (ft : Fit B X k) (hg : Gl X "enumerate") (hm : X.mg "enumerate" = none) (ha : EA B X [a] g) (hs : starEach [a] X.env = [(false, eval a X.env)] := by rfl) :
    EI B X (.Tuple elts kk tpos) (.Call (.Name "enumerate" p) [a] [] pos) (dEnum g) := by
  refine .of (pi_enumA hg hm ha.pa hs) fun F pa s σ T H R ds s' j hf q => ?_
  unfold dEnum at hf
  split at hf
  · rename_i x s1 h1
    refine ⟨F, pa, s, T, _, _, j, h1, fun F1 pa1 vs H1 hl j1 => ?_⟩
    rw [ft.kk]
    match vs, hl, j1 with
    | [v], hl, j1 =>
      have j1 : J B F1 pa1 s1 σ ((x, v) :: T) H1 := j1
      split at hf
      · rename_i ds' s2 h2
        cases hf
        obtain ⟨F2, _, j2⟩ := j1.frz h2
        have t := j2.tmp _ List.mem_cons_self
        cases (show B.Rep F2 (.list ds') v from t) with
        | lst e r =>
          refine ⟨_, _, rfl, .inl ⟨.of (j2.sub _ _ e), q F2 pa1 H1 _ [(.fz (.list ds'), _)] fz1 j2 ⟨fun {F pa s σ T H} i j hs hi => ?_, fun {F pa s σ T H} j hs => ?_, fun {F pa s σ T H} i d' x H' j hs hd y => ?_⟩⟩⟩
          all_goals
            have t := j.tmp _ (hs _ List.mem_cons_self)
            cases (show B.Rep F (.list ds') (.ref _) from t) with
            | lst e r => ?_
          · rw [enumD_len] at hi
            exact ⟨_, _, .of (j.sub _ _ e), List.getElem?_eq_getElem (by rw [← r.length]; exact hi)⟩
          · exact ⟨_, .of (j.sub _ _ e), by rw [enumD_len, ← r.length]; exact Nat.le_refl _⟩
          · obtain ⟨T', x', e3, e4, e5, h3⟩ := y
            subst e3 e5
            rw [enumD_at] at hd
            obtain ⟨d2, hd2, ed⟩ := Option.map_eq_some_iff.mp hd
            subst ed
            obtain ⟨u, h5, h6⟩ := r.get hd2
            have h7 := h3 _ (.of (j.sub _ _ e))
            rw [h5] at h7; cases h7
            rw [Nat.zero_add]
            exact ⟨_, j.newTup e4 (.cons (.int _) (.one h6))⟩
      · rename_i ds' s2 h2
        cases hf
        obtain ⟨F2, _, j2⟩ := j1.frz h2
        have t := j2.tmp _ List.mem_cons_self
        cases (show B.Rep F2 (.tuple ds') v from t) with
        | tup e r =>
          refine ⟨_, _, rfl, .inr ⟨.of (j2.sub _ _ e), q F2 pa1 H1 _ [(.fz (.tuple ds'), _)] fz1 j2 ⟨fun {F pa s σ T H} i j hs hi => ?_, fun {F pa s σ T H} j hs => ?_, fun {F pa s σ T H} i d' x H' j hs hd y => ?_⟩⟩⟩
          all_goals
            have t := j.tmp _ (hs _ List.mem_cons_self)
            cases (show B.Rep F (.tuple ds') (.ref _) from t) with
            | tup e r => ?_
          · rw [enumD_len] at hi
            exact ⟨_, _, .of (j.sub _ _ e), List.getElem?_eq_getElem (by rw [← r.length]; exact hi)⟩
          · exact ⟨_, .of (j.sub _ _ e), by rw [enumD_len, ← r.length]; exact Nat.le_refl _⟩
          · obtain ⟨T', x', e3, e4, e5, h3⟩ := y
            subst e3 e5
            rw [enumD_at] at hd
            obtain ⟨d2, hd2, ed⟩ := Option.map_eq_some_iff.mp hd
            subst ed
            obtain ⟨u, h5, h6⟩ := r.get hd2
            have h7 := h3 _ (.of (j.sub _ _ e))
            rw [h5] at h7; cases h7
            rw [Nat.zero_add]
            exact ⟨_, j.newTup e4 (.cons (.int _) (.one h6))⟩
      · cases hf
  · cases hf
def zipD (xs ys : List PyData) : List PyData := List.zipWith (fun a b => .tuple [a, b]) xs ys
def dZip (g : DEs) : DI := fun s => match g s with
  | some (xs, s1) => match frzAll s1 xs with
    | some ([.list xs, .list ys], s2) => some (zipD xs ys, s2)
    | some ([.tuple xs, .tuple ys], s2) => some (zipD xs ys, s2)
    | _ => none
  | _ => none
theorem zip_at {xs ys : List PyData} {i : Nat} {d : PyData} (h : (zipD xs ys)[i]? = some d) : ∃ a b, xs[i]? = some a ∧ ys[i]? = some b ∧ d = .tuple [a, b] := by
  unfold zipD at h
  rw [List.getElem?_zipWith] at h
  split at h
  · rename_i x y h1 h2
    cases h
    exact ⟨x, y, h1, h2, rfl⟩
  · cases h
theorem ei_zip {elts : List Expr} {kk : Nat} {tpos : Pos} (ft : Fit B X k) (hg : Gl X "zip") (hm : X.mg "zip" = none) (ha : EA B X [a, b] g)
    (hs : starEach [a, b] X.env = (false, eval a X.env) :: starEach [b] X.env := by rfl) (hpl : (backTo pos (starEach [b] X.env)).any (·.1) = false := by rfl) :
    EI B X (.Tuple elts kk tpos) (.Call (.Name "zip" p) [a, b] [] pos) (dZip g) := by
  refine .of (RZ.pi_zipA hg hm ha.pa hs hpl) fun F pa s σ T H R ds s' j hf q => ?_
  unfold dZip at hf
  split at hf
  · rename_i xs s1 h1
    refine ⟨F, pa, s, T, _, _, j, h1, fun F1 pa1 vs H1 hl j1 => ?_⟩
    rw [ft.kk]
    split at hf
    · rename_i xs' ys' s2 h2
      cases hf
      obtain ⟨F2, _, j2, r2⟩ := j1.frzAll hl (onT_mem xs vs T) h2
      have jT := j2.sub_T (onT_sub xs vs T)
      cases r2 with
      | cons ra r3 => cases r3 with
        | cons rb r4 =>
          cases r4
          have j3 := jT.pushFz rb |>.pushFz ra
          cases ra with
          | lst e1 r1 =>
            cases rb with
            | lst e2 r2 =>
              refine ⟨_, _, _, _, rfl, .inl ⟨.of (j2.sub _ _ e1), .of (j2.sub _ _ e2), q F2 pa1 H1 _ [(.fz (.list xs'), _), (.fz (.list ys'), _)] ?_ j3 ⟨fun {F pa s σ T H} i j hs hi => ?_, fun {F pa s σ T H} j hs => ?_, fun {F pa s σ T H} i d' x H' j hs hd y => ?_⟩⟩⟩
              · intro t ht
                rcases List.mem_cons.mp ht with rfl | ht
                · exact ⟨rfl, rfl⟩
                · exact fz1 t ht
              all_goals
                have t1 := j.tmp _ (hs _ List.mem_cons_self)
                have t2 := j.tmp _ (hs _ (List.mem_cons_of_mem _ List.mem_cons_self))
                obtain ⟨_, e1, r1⟩ := lst_of t1
                obtain ⟨_, e2, r2⟩ := lst_of t2
              · have hh : i < xs'.length ∧ i < ys'.length := by unfold zipD at hi; simp at hi; omega
                exact ⟨_, _, _, _, .of (j.sub _ _ e1), .of (j.sub _ _ e2), List.getElem?_eq_getElem (by rw [← r1.length]; exact hh.1), List.getElem?_eq_getElem (by rw [← r2.length]; exact hh.2)⟩
              · exact ⟨_, _, .of (j.sub _ _ e1), .of (j.sub _ _ e2), by rw [← r1.length, ← r2.length]; unfold zipD; simp; omega⟩
              · obtain ⟨T', x', y', e3, e4, e5, h3, h4⟩ := y
                subst e3 e5
                obtain ⟨d1, d2, g1, g2, ed⟩ := zip_at hd
                subst ed
                obtain ⟨u, h5, h6⟩ := r1.get g1
                obtain ⟨u2, h8, h9⟩ := r2.get g2
                have h7 := h3 _ (.of (j.sub _ _ e1))
                rw [h5] at h7; cases h7
                have h7 := h4 _ (.of (j.sub _ _ e2))
                rw [h8] at h7; cases h7
                exact ⟨_, j.newTup e4 (.cons h6 (.one h9))⟩
    · rename_i xs' ys' s2 h2
      cases hf
      obtain ⟨F2, _, j2, r2⟩ := j1.frzAll hl (onT_mem xs vs T) h2
      have jT := j2.sub_T (onT_sub xs vs T)
      cases r2 with
      | cons ra r3 => cases r3 with
        | cons rb r4 =>
          cases r4
          have j3 := jT.pushFz rb |>.pushFz ra
          cases ra with
          | tup e1 r1 =>
            cases rb with
            | tup e2 r2 =>
              refine ⟨_, _, _, _, rfl, .inr ⟨.of (j2.sub _ _ e1), .of (j2.sub _ _ e2), q F2 pa1 H1 _ [(.fz (.tuple xs'), _), (.fz (.tuple ys'), _)] ?_ j3 ⟨fun {F pa s σ T H} i j hs hi => ?_, fun {F pa s σ T H} j hs => ?_, fun {F pa s σ T H} i d' x H' j hs hd y => ?_⟩⟩⟩
              · intro t ht
                rcases List.mem_cons.mp ht with rfl | ht
                · exact ⟨rfl, rfl⟩
                · exact fz1 t ht
              all_goals
                have t1 := j.tmp _ (hs _ List.mem_cons_self)
                have t2 := j.tmp _ (hs _ (List.mem_cons_of_mem _ List.mem_cons_self))
                obtain ⟨_, e1, r1⟩ := tup_of t1
                obtain ⟨_, e2, r2⟩ := tup_of t2
              · have hh : i < xs'.length ∧ i < ys'.length := by unfold zipD at hi; simp at hi; omega
                exact ⟨_, _, _, _, .of (j.sub _ _ e1), .of (j.sub _ _ e2), List.getElem?_eq_getElem (by rw [← r1.length]; exact hh.1), List.getElem?_eq_getElem (by rw [← r2.length]; exact hh.2)⟩
              · exact ⟨_, _, .of (j.sub _ _ e1), .of (j.sub _ _ e2), by rw [← r1.length, ← r2.length]; unfold zipD; simp; omega⟩
              · obtain ⟨T', x', y', e3, e4, e5, h3, h4⟩ := y
                subst e3 e5
                obtain ⟨d1, d2, g1, g2, ed⟩ := zip_at hd
                subst ed
                obtain ⟨u, h5, h6⟩ := r1.get g1
                obtain ⟨u2, h8, h9⟩ := r2.get g2
                have h7 := h3 _ (.of (j.sub _ _ e1))
                rw [h5] at h7; cases h7
                have h7 := h4 _ (.of (j.sub _ _ e2))
                rw [h8] at h7; cases h7
                exact ⟨_, j.newTup e4 (.cons h6 (.one h9))⟩
    · cases hf
  · cases hf

/-! ### for -/
def dForL (p : DG) (b : DS) : List PyData → DS
  | [] => fun s => some (.nx, s)
  | d :: ds => fun s => match p (.fz d) s with
    | some s1 => match b s1 with
      | some (.nx, s2) => dForL p b ds s2
      | some (.ct, s2) => dForL p b ds s2
      | some (.bk, s2) => some (.nx, s2)
      | some (.rt x, s2) => some (.rt x, s2)
      | none => none
    | none => none
def dFor (fi : DI) (p : DG) (b : DS) : DS := fun s => match fi s with
  | some (ds, s1) => dForL p b ds s1
  | none => none
theorem noSl_app {src : List (Vl × V)} (h : allFz src) (hT : noSl T) : noSl (src ++ T) := fun t ht => by
  rcases List.mem_append.mp ht with h1 | h1
  · exact (h t h1).2
  · exact hT t h1
theorem es_for (ft : Fit B X k) (hp : PassesOwn (model X.prog X.w) X.A X.env X.xe) (hi : EI B X tg iter fi) (hg : EG B X W tg pg) (hb : EB B X sts fs)
    (hs : ∀ x, foldedSetIterable iter X.env x = pure x := by intro _; rfl) : ES B X (.For tg iter sts [] pos) (dFor fi pg fs) := by
  refine .of (ps_for hp ft.calm hi.pi hg.pg hb.ps hs) fun F pa s σ T H D o s' nt j hf q => ?_
  unfold dFor at hf
  split at hf
  · rename_i ds s1 h1
    refine ⟨F, pa, s, T, ds, s1, j, h1, fun F1 pa1 H1 It src hfz j1 wk => ?_⟩
    have nt' := noSl_app hfz nt
    have hsub : T.Sublist (src ++ T) := List.sublist_append_right src T
    have q' : ∀ {o}, OutK B D s' T o → OutK B D s' (src ++ T) o := fun {o} q => by
      cases o with
      | nx => exact fun F' pa' σ' H' j' => q F' pa' σ' H' (j'.sub_T hsub)
      | bk => exact fun F' pa' σ' H' j' => q F' pa' σ' H' (j'.sub_T hsub)
      | ct => exact fun F' pa' σ' H' j' => q F' pa' σ' H' (j'.sub_T hsub)
      | rt x => exact fun F' pa' σ' v H' j' => q F' pa' σ' v H' (j'.sub_T (.cons_cons _ hsub))
    refine ⟨fun i m σ H => m = ds.length - i ∧ i ≤ ds.length ∧ ∃ F pa s, J B F pa s σ (src ++ T) H ∧ dForL pg fs (ds.drop i) s = some (o, s'), ⟨ds.length, by simp, Nat.zero_le _, F1, pa1, s1, j1, hf⟩, ?_⟩
    rintro i m σ H ⟨rfl, hle, F, pa, s, j, hf⟩
    by_cases hlt : i < ds.length
    · rw [List.drop_eq_getElem_cons hlt] at hf
      refine .inr ⟨wk.go i j (fun t ht => List.mem_append_left _ ht) hlt, ?_⟩
      unfold dForL at hf
      split at hf
      · rename_i s2 h2
        refine ⟨fun σ' H' => ∃ F pa s, J B F pa s σ' (src ++ T) H' ∧ dForL pg fs (ds.drop (i + 1)) s = some (o, s'), fun σ' H' h' => ⟨ds.length - (i + 1), by omega, rfl, hlt, h'⟩, fun x H' y => ?_⟩
        obtain ⟨F2, j2⟩ := wk.yld i ds[i] x H' j (fun t ht => List.mem_append_left _ ht) (List.getElem?_eq_getElem hlt) y
        refine ⟨F2, pa, s, src ++ T, _, s2, j2, offT_of nt', h2, fun F3 pa3 σ3 H3 j3 _ => ?_⟩
        split at hf
        · rename_i s4 h4
          exact ⟨F3, pa3, s2, src ++ T, .nx, s4, nt', j3, h4, fun F5 pa5 σ5 H5 j5 => ⟨F5, pa5, s4, j5, hf⟩⟩
        · rename_i s4 h4
          exact ⟨F3, pa3, s2, src ++ T, .ct, s4, nt', j3, h4, fun F5 pa5 σ5 H5 j5 => ⟨F5, pa5, s4, j5, hf⟩⟩
        · rename_i s4 h4
          cases hf
          exact ⟨F3, pa3, s2, src ++ T, .bk, s', nt', j3, h4, fun F5 pa5 σ5 H5 j5 => q F5 pa5 σ5 H5 (j5.sub_T hsub)⟩
        · rename_i x4 s4 h4
          cases hf
          exact ⟨F3, pa3, s2, src ++ T, .rt x4, s', nt', j3, h4, fun F5 pa5 σ5 v5 H5 j5 => q F5 pa5 σ5 v5 H5 (j5.sub_T (.cons_cons _ hsub))⟩
        · cases hf
      · cases hf
    · have e : i = ds.length := by omega
      subst e
      rw [List.drop_length] at hf
      unfold dForL at hf
      cases hf
      exact .inl ⟨wk.stop j fun t ht => List.mem_append_left _ ht, q F pa σ H (j.sub_T hsub)⟩
  · cases hf
end
end Rg
/-! Rg, part Q: list comprehensions. -/
namespace Rg
open PySem L2

/-- the slots of vs hold nothing -/
def noneAt (s : S) : List Nat → Bool
  | [] => true
  | v :: vs => (match s.env[v]? with
    | some none => true
    | _ => false) && noneAt s vs
def clearE (env : List (Option Sl)) : List Nat → List (Option Sl)
  | [] => env
  | v :: vs => (clearE env vs).set v none
def S.clear (s : S) (vs : List Nat) : S := { s with env := clearE s.env vs }
theorem noneAt_mem {s : S} : ∀ {vs : List Nat}, noneAt s vs = true → ∀ v ∈ vs, s.env[v]? = some none
  | [], _, v, h => by cases h
  | u :: vs, hn, v, h => by
    unfold noneAt at hn
    rw [Bool.and_eq_true] at hn
    rcases List.mem_cons.mp h with rfl | h
    · have h1 := hn.1
      split at h1
      · assumption
      · cases h1
    · exact noneAt_mem hn.2 v h
theorem noneAt_of {s : S} : ∀ {vs : List Nat}, (∀ v ∈ vs, s.env[v]? = some none) → noneAt s vs = true
  | [], _ => rfl
  | u :: vs, h => by
    unfold noneAt
    rw [h u List.mem_cons_self, noneAt_of fun v hv => h v (List.mem_cons_of_mem _ hv)]
    rfl
theorem clearE_len (env : List (Option Sl)) : ∀ vs : List Nat, (clearE env vs).length = env.length
  | [] => rfl
  | v :: vs => by unfold clearE; rw [List.length_set, clearE_len env vs]
theorem clearE_at {env : List (Option Sl)} {i : Nat} {y : Sl} : ∀ {vs : List Nat}, (clearE env vs)[i]? = some (some y) → env[i]? = some (some y)
  | [], h => h
  | v :: vs, h => by
    unfold clearE at h
    rcases get_set h with ⟨_, b, _⟩ | ⟨_, h⟩
    · cases b
    · exact clearE_at h
theorem clearE_off {env : List (Option Sl)} {i : Nat} : ∀ {vs : List Nat}, i ∉ vs → (clearE env vs)[i]? = env[i]?
  | [], _ => rfl
  | v :: vs, h => by
    have h1 : v ≠ i := fun e => h (by rw [e]; exact List.mem_cons_self)
    unfold clearE
    rw [List.getElem?_set_ne h1, clearE_off fun m => h (List.mem_cons_of_mem _ m)]
theorem clearE_none {env : List (Option Sl)} {i : Nat} : ∀ {vs : List Nat}, i ∈ vs → i < env.length → (clearE env vs)[i]? = some none
  | v :: vs, h, hl => by
    unfold clearE
    by_cases e : v = i
    · subst e
      rw [List.getElem?_set_self (by rw [clearE_len]; exact hl)]
    · rw [List.getElem?_set_ne e]
      rcases List.mem_cons.mp h with z | h
      · exact absurd z.symm e
      · exact clearE_none h hl

section
variable {B : Bs} {X : Cx} {k : Nat} {F : Hp} {pa : Option (Addr × Addr)} {s s' : S} {σ σ' : St} {T T2 : List (Vl × V)} {H : Hp} {vs : List Nat}
/-- other slots' values do not matter -/
theorem J.slots (j : J B F pa s σ T H) (hl : σ'.length = σ.length) (h : ∀ (i : Nat) (y : Sl), s.env[i]? = some (some y) → σ'[i]? = σ[i]?) : J B F pa s σ' T H := by
  have at' : ∀ {i y v}, s.env[i]? = some (some y) → σAt σ i v → σAt σ' i v := fun {i y v} e q => (h i y e).trans q
  refine ⟨j.sub, j.keep, j.fnew, j.f0, j.pa0, by rw [hl]; exact j.len, fun i d e => ?_, fun i d e => ?_, fun i e => ?_, fun i l d e q q' r => ?_, fun t ht => ?_, j.tne, fun t ht e i d q z => ?_, j.pot, j.ext.of fun i y _ e => ⟨e, h i y e⟩⟩
  · obtain ⟨v, h1, h2⟩ := j.fzs i d e
    exact ⟨v, at' e h1, h2⟩
  · obtain ⟨a, h1, h2⟩ := j.own i d e
    exact ⟨a, at' e h1, h2⟩
  · obtain ⟨p, g, h1, h2⟩ := j.pts i e
    exact ⟨p, g, h1, at' e h2⟩
  · rw [h i _ q, h l _ q'] at r
    exact j.une i l d e q q' r
  · have ht' := j.tmp t ht
    obtain ⟨x, v⟩ := t
    cases x with
    | fz d => exact ht'
    | fr d => exact ht'
    | sl i =>
      obtain ⟨⟨d, h1⟩, h2⟩ := ht'
      exact ⟨⟨d, h1⟩, h1.elim (fun e => at' e h2) fun e => at' e h2⟩
    | pt => exact ht'
    | gr => exact ht'
    | ob o => exact ht'
  · exact j.tse t ht e i d q (by unfold σAt at z ⊢; rw [← h i _ q]; exact z)
theorem J.off (j : J B F pa s σ T H) (h : noneAt s vs = true) : offT vs T := fun t ht i hi e => by
  have ht' := j.tmp t ht
  obtain ⟨x, v⟩ := t
  have e' : x = .sl i := e
  subst e'
  obtain ⟨⟨d, h1⟩, _⟩ := ht'
  have := noneAt_mem h i hi
  rcases h1 with h1 | h1
  · have h2 : s.env[i]? = some (some (.own d)) := h1
    rw [this] at h2; cases h2
  · have h2 : s.env[i]? = some (some (.fz d)) := h1
    rw [this] at h2; cases h2
theorem J.clear (j : J B F pa s σ T H) (hT : offT vs T) : J B F pa (s.clear vs) σ T H := by
  refine ⟨j.sub, j.keep, j.fnew, j.f0, j.pa0, by show (clearE s.env vs).length = _; rw [clearE_len]; exact j.len, fun i d e => j.fzs i d (clearE_at e), fun i d e => j.own i d (clearE_at e), fun i e => j.pts i (clearE_at e), fun i l d e q q' r => j.une i l d e (clearE_at q) (clearE_at q') r, fun t ht => ?_, j.tne, fun t ht e i d q => j.tse t ht e i d (clearE_at q), j.pot, j.ext.of fun _ _ _ e => ⟨clearE_at e, rfl⟩⟩
  have ht' := j.tmp t ht
  have hof := hT t ht
  obtain ⟨x, v⟩ := t
  cases x with
  | fz d => exact ht'
  | fr d => exact ht'
  | sl i =>
    obtain ⟨⟨d, h1⟩, h2⟩ := ht'
    have ni : i ∉ vs := fun m => hof i m rfl
    exact ⟨⟨d, h1.elim (fun e => .inl ((clearE_off ni).trans e)) fun e => .inr ((clearE_off ni).trans e)⟩, h2⟩
  | pt => exact ht'
  | gr => exact ht'
  | ob o => exact ht'
theorem wipe_in : ∀ {vs : List Nat} {i : Nat}, i ∈ vs → i < σ.length → (wipe σ vs)[i]? = some none
  | v :: vs, i, h, hl => by
    unfold wipe
    by_cases e : v = i
    · subst e
      rw [List.getElem?_set_self (by rw [wipe_length]; exact hl)]
    · rw [List.getElem?_set_ne e]
      rcases List.mem_cons.mp h with z | h
      · exact absurd z.symm e
      · exact wipe_in h hl
theorem wipe_eq {σ σ' : St} (hl : σ'.length = σ.length) (h : ∀ i, i ∉ vs → σ'[i]? = σ[i]?) : wipe σ' vs = wipe σ vs := by
  refine List.ext_getElem? fun i => ?_
  by_cases hi : i ∈ vs
  · by_cases hlt : i < σ.length
    · rw [wipe_in hi hlt, wipe_in hi (by rw [hl]; exact hlt)]
    · rw [List.getElem?_eq_none (by rw [wipe_length]; omega), List.getElem?_eq_none (by rw [wipe_length]; omega)]
  · rw [wipe_out hi, wipe_out hi, h i hi]
theorem J.wiped (j : J B F pa s σ T H) (h : noneAt s vs = true) : J B F pa s (wipe σ vs) T H :=
  j.slots (wipe_length σ vs) fun i y e => wipe_out fun m => by rw [noneAt_mem h i m] at e; cases e
theorem J.unwiped (j : J B F pa s (wipe σ vs) T H) (h : noneAt s vs = true) : J B F pa s σ T H :=
  j.slots (wipe_length σ vs).symm fun i y e => (wipe_out fun m => by rw [noneAt_mem h i m] at e; cases e).symm
theorem clear_none (j : J B F pa s σ T H) (h : ∀ v ∈ vs, v < σ.length) : noneAt (s.clear vs) vs = true :=
  noneAt_of fun v hv => clearE_none hv (by rw [j.len]; exact h v hv)

/-! ### the loop -/
def dLcL (p : DG) (tt : DT) (te : DE) (vs : List Nat) : List PyData → S → Option (List PyData × S)
  | [], s => some ([], s)
  | d :: ds, s => match p (.fz d) s with
    | some s1 => match tt s1 with
      | some (true, s2) => match te s2 with
        | some (y, s3) => match frz s3 y with
          | some (e, s4) => match dLcL p tt te vs ds (s4.clear vs) with
            | some (es, s5) => some (e :: es, s5)
            | none => none
          | none => none
        | none => none
      | some (false, s2) => dLcL p tt te vs ds (s2.clear vs)
      | none => none
    | none => none
theorem lc_turns {It : It} {src : List (Vl × V)} {ds es : List PyData} {p : DG} {tt : DT} {te : DE} {W : List Nat} {D : Addr} {acc0 : List PyData} {H0 : Hp} {Qe : Hp → Prop} (wk : WalkD B It src ds) (hW : ∀ i ∈ W, i ∈ vs) (hvs : ∀ v ∈ vs, v < σ.length) (hsrc : ∀ t ∈ src, t ∈ T)
    (j0 : J B F pa s (wipe σ vs) ((.fr (.list acc0), .ref D) :: T) H0) (hn : noneAt s vs = true) (hf : dLcL p tt te vs ds s = some (es, s')) (hlen : acc0.length + es.length ≤ lim)
    (hq : ∀ F' pa' H, J B F' pa' s' (wipe σ vs) ((.fr (.list (acc0 ++ es)), .ref D) :: T) H → noneAt s' vs = true → Qe H) :
    ∃ W' : Nat → Nat → Hp → Prop, (∃ m, W' 0 m H0) ∧ ∀ i m H, W' i m H → (It.stop i H ∧ Qe H) ∨ (It.go i H ∧ ∃ Nx : Hp → Prop, (∀ H', Nx H' → ∃ m', m' < m ∧ W' (i + 1) m' H') ∧ ∀ x H', It.yld i H x H' → tDG B W p x (wipe σ vs) H' fun σ2 H2 => wipe σ2 vs = wipe σ vs ∧ tDT B tt σ2 H2 fun b H3 =>
      if b = true then tD B te σ2 H3 fun y H4 => ∃ acc, H4 D = some (.lst acc) ∧ acc.length < sizeLine ∧ Nx (upd H4 D (.lst (acc ++ [y]))) else Nx H3) := by
  refine ⟨fun i m H => m = ds.length - i ∧ i ≤ ds.length ∧ ∃ F pa s acc es1, J B F pa s (wipe σ vs) ((.fr (.list acc), .ref D) :: T) H ∧ noneAt s vs = true ∧ dLcL p tt te vs (ds.drop i) s = some (es1, s') ∧ acc ++ es1 = acc0 ++ es, ⟨ds.length, by simp, Nat.zero_le _, F, pa, s, acc0, es, j0, hn, hf, rfl⟩, ?_⟩
  rintro i m H ⟨rfl, hle, F, pa, s, acc, es1, j, hn, hf, htot⟩
  by_cases hlt : i < ds.length
  · rw [List.drop_eq_getElem_cons hlt] at hf
    refine .inr ⟨wk.go i j (fun t ht => List.mem_cons_of_mem _ (hsrc t ht)) hlt, ?_⟩
    unfold dLcL at hf
    split at hf
    · rename_i s2 h2
      refine ⟨fun H' => ∃ F pa s acc es1, J B F pa s (wipe σ vs) ((.fr (.list acc), .ref D) :: T) H' ∧ noneAt s vs = true ∧ dLcL p tt te vs (ds.drop (i + 1)) s = some (es1, s') ∧ acc ++ es1 = acc0 ++ es, fun H' h' => ⟨ds.length - (i + 1), by omega, rfl, hlt, h'⟩, fun x H' y => ?_⟩
      obtain ⟨F2, j2⟩ := wk.yld i ds[i] x H' j (fun t ht => List.mem_cons_of_mem _ (hsrc t ht)) (List.getElem?_eq_getElem hlt) y
      have ho := j.off hn
      refine ⟨F2, pa, s, _, _, s2, j2, fun t ht i hi => ho t ht i (hW i hi), h2, fun F3 pa3 σ3 H3 j3 sty => ?_⟩
      have hlen3 : σ3.length = σ.length := sty.1.trans (wipe_length σ vs)
      have hw : wipe σ3 vs = wipe σ vs := wipe_eq hlen3 fun i hi => (sty.2 i fun m => hi (hW i m)).trans (wipe_out hi)
      have hvs3 : ∀ v ∈ vs, v < σ3.length := fun v hv => by rw [hlen3]; exact hvs v hv
      refine ⟨hw, ?_⟩
      split at hf
      · rename_i s4 h4
        refine ⟨F3, pa3, s2, _, true, s4, j3, h4, fun F5 pa5 H5 j5 => ?_⟩
        refine iteT ?_
        split at hf
        · rename_i y6 s6 h6
          refine ⟨F5, pa5, s4, _, y6, s6, j5, h6, fun F7 pa7 v7 H7 j7 => ?_⟩
          split at hf
          · rename_i e8 s8 h8
            obtain ⟨F9, _, j9⟩ := j7.frz h8
            split at hf
            · rename_i es9 s9 h9
              cases hf
              obtain ⟨a, ea, ow⟩ := j9.tmp _ (List.mem_cons_of_mem _ List.mem_cons_self)
              cases ea
              obtain ⟨o, h10, c⟩ := ow.cell
              have r8 : B.Rep F9 e8 v7 := j9.tmp (.fz e8, v7) List.mem_cons_self
              have j10 := j9.pop
              have tl : (acc ++ e8 :: es9).length ≤ lim := by rw [htot, List.length_append]; exact hlen
              generalize hcc : PyData.list acc = cc at c
              cases c with
              | lst rc =>
                cases hcc
                refine ⟨_, h10, ?_, F9, pa7, s8.clear vs, acc ++ [e8], es9, ?_, ?_, h9, by rw [← htot]; simp⟩
                · rw [← rc.length]
                  rw [List.length_append, List.length_cons] at tl
                  exact lim_lt (by omega)
                · have j11 := j10.swapTop (d' := .list (acc ++ [e8])) (.lst (rc.append (.one r8)))
                  have j12 := (j11.clear (vs := vs) fun t ht => by
                    rcases List.mem_cons.mp ht with rfl | ht
                    · exact fun _ _ e => nomatch e
                    · exact ho t (List.mem_cons_of_mem _ ht))
                  have := j12.wiped (clear_none j11 hvs3)
                  rw [hw] at this
                  exact this
                · exact clear_none j10 hvs3
              | dK _ => cases hcc
              | dN _ _ => cases hcc
            · cases hf
          · cases hf
        · cases hf
      · rename_i s4 h4
        refine ⟨F3, pa3, s2, _, false, s4, j3, h4, fun F5 pa5 H5 j5 => ?_⟩
        refine iteF ?_
        refine ⟨F5, pa5, s4.clear vs, acc, es1, ?_, clear_none j5 hvs3, hf, htot⟩
        have j12 := j5.clear (vs := vs) ho
        have := j12.wiped (clear_none j5 hvs3)
        rw [hw] at this
        exact this
      · cases hf
    · cases hf
  · have e : i = ds.length := by omega
    subst e
    rw [List.drop_length] at hf
    unfold dLcL at hf
    cases hf
    rw [List.append_nil] at htot
    subst htot
    exact .inl ⟨wk.stop j fun t ht => List.mem_cons_of_mem _ (hsrc t ht), hq F pa H j hn⟩

/-! ### [elt for tg in iter if ..] -/
structure ETs (B : Bs) (X : Cx) (ifs : List Expr) (f : DT) : Prop where
  pts : PTs X ifs (tDT B f)
def dYes : DT := fun s => some (true, s)
variable {e a b c t o i tg iter elt : Expr} {ifs : List Expr} {dt : DT} {f : DE} {fi : DI} {pg : DG} {W : List Nat} {pos spos : Pos} {scope : Scope} {own : List (Str × Nat)}
theorem ets_nil : ETs B X [] dYes := ⟨⟨fun pins s σ H Q I ⟨F, pa, s1, T, x, s', j, hf, q⟩ => pts_nil.run pins s σ H Q I (by cases hf; exact q F pa H j)⟩⟩
theorem ets_one (h : ET B X c dt) : ETs B X [c] dt := ⟨pts_one h.pt⟩
/-! ### names of the block that the def uses as well -/
def saveAt (s : S) : List Nat → Option (List (Option PyData))
  | [] => some []
  | v :: vs => match s.env[v]? with
    | some none => (saveAt s vs).map (none :: ·)
    | some (some (.fz d)) => (saveAt s vs).map (some d :: ·)
    | _ => none
def S.back (s : S) : List Nat → List (Option PyData) → S
  | v :: vs, some d :: ds => (s.back vs ds).put v (.fz d)
  | _ :: vs, none :: ds => s.back vs ds
  | _, _ => s
theorem J.putFz (j : J B F pa s σ T H) {i : Nat} {d : PyData} {u : V} (hi : i < s.env.length) (hu : σAt σ i u) (r : B.Rep F d u) : J B F pa (s.put i (.fz d)) σ T H := by
  refine ⟨j.sub, j.keep, j.fnew, j.f0, j.pa0, (by show (s.env.set i _).length = _; rw [List.length_set]; exact j.len), fun k e q => ?_, fun k e q => ?_, fun k q => ?_, fun k l e e' q q' z => ?_, fun t ht => ?_, j.tne, fun t ht e k d' q => ?_, j.pot, j.ext.put rfl⟩
  · rcases put_fz q with ⟨rfl, e1⟩ | ⟨_, q⟩
    · cases e1; exact ⟨u, hu, r⟩
    · exact j.fzs k e q
  · rcases put_own q with ⟨rfl, e1⟩ | ⟨_, q⟩
    · cases e1
    · exact j.own k e q
  · rcases put_pt q with ⟨rfl, e1⟩ | ⟨_, q⟩
    · cases e1
    · exact j.pts k q
  · rcases put_own q with ⟨rfl, e1⟩ | ⟨_, q⟩
    · cases e1
    · rcases put_own q' with ⟨rfl, e1⟩ | ⟨_, q'⟩
      · cases e1
      · exact j.une k l e e' q q' z
  · have ht' := j.tmp t ht
    obtain ⟨x, v⟩ := t
    cases x with
    | fz d => exact ht'
    | fr d => exact ht'
    | sl k =>
      obtain ⟨⟨e, h1⟩, h2⟩ := ht'
      refine ⟨?_, h2⟩
      by_cases ne : i = k
      · subst ne
        exact ⟨d, .inr (put_self hi)⟩
      · exact ⟨e, h1.elim (fun q => .inl (put_at q ne)) fun q => .inr (put_at q ne)⟩
    | pt => exact ht'
    | gr => exact ht'
    | ob o => exact ht'
  · rcases put_own q with ⟨rfl, e1⟩ | ⟨_, q⟩
    · cases e1
    · exact j.tse t ht e k d' q
theorem J.remap {f : Vl × V → Vl × V} (j : J B F pa s σ T H) (h2 : ∀ t, (f t).2 = t.2) (h1 : ∀ t, (f t).1.isFr = t.1.isFr) (h : ∀ t ∈ T, TOk B F pa s σ H (f t)) : J B F pa s σ (T.map f) H := by
  refine ⟨j.sub, j.keep, j.fnew, j.f0, j.pa0, j.len, j.fzs, j.own, j.pts, j.une, fun t ht => ?_, List.pairwise_map.mpr (j.tne.imp fun {a b} r e1 e2 => ?_), fun t ht e => ?_, j.pot, j.ext⟩
  · obtain ⟨u, hu, rfl⟩ := List.mem_map.mp ht
    exact h u hu
  · rw [h2, h2]; exact r ((h1 a).symm.trans e1) ((h1 b).symm.trans e2)
  · obtain ⟨u, hu, rfl⟩ := List.mem_map.mp ht
    rw [h2]
    exact j.tse u hu ((h1 u).symm.trans e)
theorem J.unmap {f : Vl × V → Vl × V} (j : J B F pa s σ (T.map f) H) (h2 : ∀ t, (f t).2 = t.2) (h1 : ∀ t, (f t).1.isFr = t.1.isFr) (h : ∀ t ∈ T, TOk B F pa s σ H t) : J B F pa s σ T H := by
  refine ⟨j.sub, j.keep, j.fnew, j.f0, j.pa0, j.len, j.fzs, j.own, j.pts, j.une, h, (List.pairwise_map.mp j.tne).imp fun {a b} r e1 e2 => ?_, fun t ht e => ?_, j.pot, j.ext⟩
  · have := r ((h1 a).trans e1) ((h1 b).trans e2)
    rw [h2, h2] at this; exact this
  · have := j.tse (f t) (List.mem_map.mpr ⟨t, ht, rfl⟩) ((h1 t).trans e)
    rw [h2] at this; exact this
/-- a slot of the block on the stack, as its data -/
def hideT (s : S) (vs : List Nat) (t : Vl × V) : Vl × V := match t.1 with
  | .sl i => if i ∈ vs then (match s.env[i]? with
    | some (some (.fz d)) => (.fz d, t.2)
    | _ => t) else t
  | _ => t
theorem hideT_2 (t : Vl × V) : (hideT s vs t).2 = t.2 := by
  unfold hideT
  split
  · split
    · split <;> rfl
    · rfl
  · rfl
theorem hideT_1 (t : Vl × V) : (hideT s vs t).1.isFr = t.1.isFr := by
  unfold hideT
  split
  · rename_i i e
    split
    · split
      · rw [e]; rfl
      · rfl
    · rfl
  · rfl
theorem save_at {i : Nat} : ∀ {vs : List Nat} {ds : List (Option PyData)}, saveAt s vs = some ds → i ∈ vs → s.env[i]? = some none ∨ ∃ d, fzAt s i d
  | [], _, _, h => by cases h
  | v :: vs, ds, e, h => by
    unfold saveAt at e
    split at e
    · rename_i hn
      obtain ⟨ds', h1, _⟩ := Option.map_eq_some_iff.mp e
      rcases List.mem_cons.mp h with rfl | h
      · exact .inl hn
      · exact save_at h1 h
    · rename_i d hn
      obtain ⟨ds', h1, _⟩ := Option.map_eq_some_iff.mp e
      rcases List.mem_cons.mp h with rfl | h
      · exact .inr ⟨d, hn⟩
      · exact save_at h1 h
    · cases e
theorem J.hide (j : J B F pa s σ T H) {ds : List (Option PyData)} (e : saveAt s vs = some ds) : J B F pa s σ (T.map (hideT s vs)) H ∧ offT vs (T.map (hideT s vs)) := by
  refine ⟨j.remap hideT_2 hideT_1 fun t ht => ?_, fun t ht i hi => ?_⟩
  · have ht' := j.tmp t ht
    unfold hideT
    split
    · rename_i i e1
      split
      · split
        · rename_i d hd
          obtain ⟨x, v⟩ := t
          have e1' : x = .sl i := e1
          subst e1'
          obtain ⟨_, h2⟩ := ht'
          obtain ⟨u, h3, h4⟩ := j.fzs i d hd
          rw [h2.inj h3]
          exact h4
        · exact ht'
      · exact ht'
    · exact ht'
  · obtain ⟨u, hu, rfl⟩ := List.mem_map.mp ht
    intro z
    unfold hideT at z
    split at z
    · rename_i k e1
      split at z
      · rename_i hk
        split at z
        · cases z
        · rename_i hn
          have hu' := j.tmp u hu
          obtain ⟨x, v⟩ := u
          have e1' : x = .sl k := e1
          subst e1'
          obtain ⟨⟨d, h1⟩, _⟩ := hu'
          rcases save_at e hk with h2 | ⟨d2, h2⟩
          · rcases h1 with h1 | h1
            · have h1' : s.env[k]? = some (some (.own d)) := h1
              rw [h2] at h1'; cases h1'
            · have h1' : s.env[k]? = some (some (.fz d)) := h1
              rw [h2] at h1'; cases h1'
          · exact hn d2 h2
      · rename_i hk
        have e2 : Vl.sl k = .sl i := by rw [← e1]; exact z
        cases e2
        exact hk hi
    · rename_i hne
      exact hne i z
/-- what was saved lies on the stack -/
theorem J.saved (j : J B F pa s σ T H) : ∀ {vs : List Nat} {ds : List (Option PyData)}, saveAt s vs = some ds → ∃ sv : List (Vl × V), (∀ t ∈ sv, ∃ d, t.1 = .fz d ∧ B.Rep F d t.2) ∧
    ∀ F' pa' s' T' H', J B F' pa' s' σ T' H' → (∀ t ∈ sv, t ∈ T') → s'.env.length = s.env.length → J B F' pa' (s'.back vs ds) σ T' H' ∧ (s'.back vs ds).env.length = s.env.length
  | [], ds, e => by
    cases e
    exact ⟨[], fun t h => (nomatch h), fun F' pa' s' T' H' j' _ hl => ⟨j', hl⟩⟩
  | v :: vs, ds, e => by
    unfold saveAt at e
    split at e
    · obtain ⟨ds', h1, h2⟩ := Option.map_eq_some_iff.mp e
      subst h2
      have g := j.saved (vs := vs) h1
      exact g
    · rename_i d hd
      obtain ⟨ds', h1, h2⟩ := Option.map_eq_some_iff.mp e
      subst h2
      obtain ⟨sv, g1, g2⟩ := j.saved h1
      obtain ⟨u, h3, h4⟩ := j.fzs v d hd
      refine ⟨(.fz d, u) :: sv, fun t ht => ?_, fun F' pa' s' T' H' j' hs hl => ?_⟩
      · rcases List.mem_cons.mp ht with rfl | ht
        · exact ⟨d, rfl, h4⟩
        · exact g1 t ht
      · obtain ⟨k1, k2⟩ := g2 F' pa' s' T' H' j' (fun t ht => hs t (List.mem_cons_of_mem _ ht)) hl
        have hlt : v < (s'.back vs ds').env.length := by rw [k2]; exact (List.getElem?_eq_some_iff.mp hd).1
        refine ⟨k1.putFz hlt h3 (k1.tmp _ (hs _ List.mem_cons_self)), ?_⟩
        show ((s'.back vs ds').env.set v _).length = _
        rw [List.length_set]; exact k2
    · cases e
theorem back_off {i : Nat} : ∀ {s : S} {vs : List Nat} {ds : List (Option PyData)}, i ∉ vs → (s.back vs ds).env[i]? = s.env[i]?
  | s, [], _, _ => rfl
  | s, v :: vs, [], _ => rfl
  | s, v :: vs, none :: ds, h => back_off (vs := vs) fun m => h (List.mem_cons_of_mem _ m)
  | s, v :: vs, some d :: ds, h => by
    have h1 : v ≠ i := fun e => h (by rw [e]; exact List.mem_cons_self)
    show ((s.back vs ds).env.set v _)[i]? = _
    rw [List.getElem?_set_ne h1]
    exact back_off (vs := vs) fun m => h (List.mem_cons_of_mem _ m)
theorem back_in {i : Nat} {d : PyData} {s0 : S} : ∀ {s : S} {vs : List Nat} {ds : List (Option PyData)}, saveAt s0 vs = some ds → i ∈ vs → fzAt s0 i d → i < s.env.length → ∃ d', fzAt (s.back vs ds) i d'
  | s, [], _, _, h, _, _ => by cases h
  | s, v :: vs, ds, e, h, hd, hl => by
    have len : ∀ (s : S) (vs : List Nat) (ds : List (Option PyData)), (s.back vs ds).env.length = s.env.length := by
      intro s vs
      induction vs with
      | nil => intro ds; rfl
      | cons v vs ih =>
        intro ds
        cases ds with
        | nil => rfl
        | cons d ds =>
          cases d with
          | none => exact ih ds
          | some d =>
            show ((s.back vs ds).env.set v _).length = _
            rw [List.length_set]; exact ih ds
    unfold saveAt at e
    split at e
    · rename_i hn
      obtain ⟨ds', h1, h2⟩ := Option.map_eq_some_iff.mp e
      subst h2
      rcases List.mem_cons.mp h with rfl | h
      · have hd' : s0.env[i]? = some (some (.fz d)) := hd
        rw [hn] at hd'; cases hd'
      · have g := back_in (s := s) (vs := vs) h1 h hd hl
        exact g
    · rename_i d2 hn
      obtain ⟨ds', h1, h2⟩ := Option.map_eq_some_iff.mp e
      subst h2
      by_cases hv : v = i
      · subst hv
        exact ⟨d2, put_self (by rw [len]; exact hl)⟩
      · rcases List.mem_cons.mp h with z | h
        · exact absurd z.symm hv
        · obtain ⟨d3, h3⟩ := back_in (s := s) h1 h hd hl
          exact ⟨d3, put_at h3 hv⟩
    · cases e
def dLc (fi : DI) (p : DG) (tt : DT) (te : DE) (vs : List Nat) : DE := fun s => match fi s with
  | some (ds, s1) => match saveAt s1 vs with
    | some sv => match dLcL p tt te vs ds (s1.clear vs) with
      | some (es, s2) => if decide (es.length ≤ lim) && decide (s2.env.length = s1.env.length) then some (.fr (.list es), s2.back vs sv) else none
      | none => none
    | none => none
  | none => none
theorem save_lt {vs : List Nat} {ds : List (Option PyData)} (j : J B F pa s σ T H) (e : saveAt s vs = some ds) : ∀ v ∈ vs, v < σ.length := fun v hv => by
  rw [← j.len]
  rcases save_at e hv with h | ⟨d, h⟩
  · exact (List.getElem?_eq_some_iff.mp h).1
  · exact (List.getElem?_eq_some_iff.mp h).1
theorem lc_read {F pa s σ T H x s'} {Q : VK} {vs : List Nat} {te : DE} (hW : ∀ i ∈ W, i ∈ vs) (j : J B F pa s σ T H) (hf : dLc fi pg dt te vs s = some (x, s')) (q : ∀ F' pa' v H', J B F' pa' s' σ ((x, v) :: T) H' → Q v H') :
    tLc (tDI B fi) (tDG B W pg) (tDT B dt) (tD B te) vs σ H Q := by
  unfold dLc at hf
  split at hf
  · rename_i ds s1 h1
    split at hf
    · rename_i sv hsv
      split at hf
      · rename_i es s2 h2
        split at hf
        · rename_i hl
          cases hf
          simp only [Bool.and_eq_true, decide_eq_true_eq] at hl
          refine ⟨F, pa, s, T, ds, s1, j, h1, fun F1 pa1 H1 It src hfz j1 wk => ?_⟩
          intro D hD
          obtain ⟨kv, g1, g2⟩ := j1.saved hsv
          have hvs := save_lt j1 hsv
          obtain ⟨jh, hoff⟩ := j1.hide hsv
          have jm := ((jh.clear hoff).pushL g1).made hD (d := .list []) (.lst .nil)
          have hn : noneAt (s1.clear vs) vs = true := clear_none j1 hvs
          have hsrc : ∀ t ∈ src, t ∈ kv ++ (src ++ T).map (hideT s1 vs) := fun t ht => by
            refine List.mem_append_right _ (List.mem_map.mpr ⟨t, List.mem_append_left _ ht, ?_⟩)
            have := (hfz t ht).2
            unfold hideT
            split
            · rename_i e; rw [e] at this; cases this
            · rfl
          refine lc_turns wk hW hvs hsrc (jm.wiped hn) hn h2 (by simpa using hl.1) fun F' pa' H' j' hn' => ?_
          have j2 := j'.unwiped hn'
          obtain ⟨k1, k2⟩ := g2 F' pa' s2 _ H' j2 (fun t ht => List.mem_cons_of_mem _ (List.mem_append_left _ ht)) hl.2
          -- drop what was saved, then the names again
          have k3 := k1.sub_T (T' := (.fr (.list es), .ref D) :: T.map (hideT s1 vs)) (.cons_cons _ (by
            rw [List.map_append]
            exact (List.sublist_append_right _ _).trans (List.sublist_append_right _ _)))
          have e0 : ((Vl.fr (.list es), V.ref D) :: T.map (hideT s1 vs)) = ((Vl.fr (.list es), V.ref D) :: T).map (hideT s1 vs) := rfl
          rw [e0] at k3
          refine q F' pa' _ H' (k3.unmap hideT_2 hideT_1 fun t ht => ?_)
          rcases List.mem_cons.mp ht with rfl | ht
          · exact k3.tmp _ (List.mem_map.mpr ⟨_, List.mem_cons_self, rfl⟩)
          · have h4 := k3.tmp _ (List.mem_map.mpr ⟨t, List.mem_cons_of_mem _ ht, rfl⟩)
            have h5 := j1.tmp t (List.mem_append_right _ ht)
            unfold hideT at h4
            split at h4
            · rename_i i e1
              split at h4
              · rename_i hi
                split at h4
                · rename_i d hd
                  obtain ⟨xx, v⟩ := t
                  have e1' : xx = .sl i := e1
                  subst e1'
                  obtain ⟨_, h6⟩ := h5
                  obtain ⟨d', h7⟩ := back_in hsv hi hd (by rw [hl.2]; exact (List.getElem?_eq_some_iff.mp hd).1)
                  exact ⟨⟨d', .inr h7⟩, h6⟩
                · exact h4
              · exact h4
            · exact h4
        · cases hf
      · cases hf
    · cases hf
  · cases hf
theorem ev_lc (ft : Fit B X k) (hN : X.N.Nodup) (hi : EI B X tg iter fi) (ok : BlkOk X.N X.env.scope scope own)
    (hg : ∀ (s : Shared) (H : Hp) (C : Addr) (cl : List (Str × Addr)) (fp : List Addr), EG B (X.blk s H scope (compEnvC scope cl C X.env) fp) W tg pg) (hW : ∀ i ∈ W, i ∈ own.map (·.2))
    (ht : ∀ (s : Shared) (H : Hp) (C : Addr) (cl : List (Str × Addr)) (fp : List Addr), ETs B (X.blk s H scope (compEnvC scope cl C X.env) fp) ifs dt)
    (he : ∀ (s : Shared) (H : Hp) (C : Addr) (cl : List (Str × Addr)) (fp : List Addr), EV B (X.blk s H scope (compEnvC scope cl C X.env) fp) elt f) (hs : ∀ x, foldedSetIterable iter X.env x = pure x := by intro _; rfl) :
    EV B X (.ListComp elt [⟨tg, iter, ifs, 0⟩] scope pos) (dLc fi pg dt f (own.map (·.2))) :=
  .of (pe_lc ft.calm hN hi.pi ok (fun s H C cl fp => (hg s H C cl fp).pg) (fun s H C cl fp => (ht s H C cl fp).pts) (fun s H C cl fp => (he s H C cl fp).pe) hs) fun F pa s σ T H Q x s' j hf q => lc_read hW j hf q
theorem es_setLc {i : Nat} {y : Str} {py : Pos} (ft : Fit B X k) (hN : X.N.Nodup) (hy : X.N[i]? = some y) (hyl : X.env.scope.names.lookup y = some .local)
    (hsw : swapsWith (.ListComp elt [⟨tg, iter, ifs, 0⟩] scope pos) (some (.Name y py)) spos.line X.env = pure true) (hi : EI B X tg iter fi) (ok : BlkOk X.N X.env.scope scope own)
    (hg : ∀ (s : Shared) (H : Hp) (C : Addr) (cl : List (Str × Addr)) (fp : List Addr), EG B (X.blk s H scope (compEnvC scope cl C X.env) fp) W tg pg) (hW : ∀ i ∈ W, i ∈ own.map (·.2))
    (ht : ∀ (s : Shared) (H : Hp) (C : Addr) (cl : List (Str × Addr)) (fp : List Addr), ETs B (X.blk s H scope (compEnvC scope cl C X.env) fp) ifs dt)
    (he : ∀ (s : Shared) (H : Hp) (C : Addr) (cl : List (Str × Addr)) (fp : List Addr), EV B (X.blk s H scope (compEnvC scope cl C X.env) fp) elt f) (hs : ∀ x, foldedSetIterable iter X.env x = pure x := by intro _; rfl) :
    ES B X (.Assign [.Name y py] (.ListComp elt [⟨tg, iter, ifs, 0⟩] scope pos) spos) (dAsg (dLc fi pg dt f (own.map (·.2))) (gVar i)) := by
  refine .of (ps_setLc ft.calm hN hy hyl hsw hi.pi ok (fun s H C cl fp => (hg s H C cl fp).pg) (fun s H C cl fp => (ht s H C cl fp).pts) (fun s H C cl fp => (he s H C cl fp).pe) hs) fun F pa s σ T H D o s' nt j h q => ?_
  unfold dAsg at h
  split at h
  · rename_i x s1 h1
    split at h
    · rename_i y s2 h2
      obtain ⟨s3, h3, h4⟩ := Option.map_eq_some_iff.mp h
      cases h4
      refine lc_read hW j h1 fun F' pa' v H' j' => ?_
      obtain ⟨_, F2, _, j2⟩ := j'.unsl h2
      obtain ⟨w, h5, h6, h7⟩ := gVar_at h3
      subst h6
      exact q F2 pa' _ H' (j2.store h5 (fun t ht => offT_of (W := [i]) nt t ht i List.mem_cons_self) (by rw [← j2.len]; exact h7))
    · cases h
  · cases h
end
end Rg
/-! Rg, part R: defs and calls of them. -/
namespace Rg
open PySem L2 PySem.Spec PyProof.Rows

/-! ### a def's promise where the guards are known (after L2.FnOk) -/
abbrev SpG := List V → Hp → VK → Prop
structure FnG (P : Program) (w : World) (K : PySem.W.Frag) (mg : Str → Option Value) (base : Heap) (k : Nat) (f : Addr) (fd : FuncData) (ps : List Str) (sp : SpG) : Prop where
  len : ∀ vs H Q, sp vs H Q → vs.length = ps.length
  run : ∀ (A : Around) (outer : List Env) (s : Shared) (H : Hp) (args : Args) (us : List Value) (vs : List V) (Q : VK), RoomG k A → Env0 P w K mg base A outer s H → BindsTo s fd args (ps.zip us) → Vals vs us → sp vs H Q →
    codeAny (model P w) A (.call (.ref f) args) (CR CX0 outer P w H s Q E0) s
theorem FnG.mono {P : Program} {w : World} {K : PySem.W.Frag} {mg : Str → Option Value} {base : Heap} {j k : Nat} {f : Addr} {fd : FuncData} {ps : List Str} {sp : SpG} (F : FnG P w K mg base j f fd ps sp) (h : j ≤ k) :
    FnG P w K mg base k f fd ps sp := ⟨F.len, fun A outer s H args us vs Q hr => F.run A outer s H args us vs Q (hr.mono h)⟩
/-- a def that asks nothing of the guards -/
theorem FnG.of {P : Program} {w : World} {K : PySem.W.Frag} {mg : Str → Option Value} {base : Heap} {k : Nat} {f : Addr} {fd : FuncData} {ps : List Str} {sp : Sp} (F : FnOk P w K mg base CX0 k f fd ps sp) : FnG P w K mg base k f fd ps (fun vs H Q => sp vs H Q E0) :=
  ⟨fun vs H Q h => F.len vs H Q E0 h, fun A outer s H args us vs Q hr => F.run A outer s H args us vs Q E0 hr.r⟩
theorem FnG.imp {P : Program} {w : World} {K : PySem.W.Frag} {mg : Str → Option Value} {base : Heap} {k : Nat} {f : Addr} {fd : FuncData} {ps : List Str} {sp sp' : SpG} (F : FnG P w K mg base k f fd ps sp) (h : ∀ vs H Q, sp' vs H Q → sp vs H Q) : FnG P w K mg base k f fd ps sp' :=
  ⟨fun vs H Q q => F.len vs H Q (h _ _ _ q), fun A outer s H args us vs Q hr he hb hv hs => F.run A outer s H args us vs Q hr he hb hv (h _ _ _ hs)⟩
theorem fnG_of {P : Program} {w : World} {K : PySem.W.Frag} {mg : Str → Option Value} {base : Heap} {k : Nat} {f : Addr} {fd : FuncData} {qual x : Str} {st : Stmt} {N ps : List Str} {sp : SpG} (F : Fun K x qual st f fd) (S : FnScope N ps (defScope st)) (len : ∀ vs H Q, sp vs H Q → vs.length = ps.length)
    (hbody : ∀ (cdv : Value) (A : Around) (outer : List Env) (s : Shared) (H : Hp) (vs : List V) (Q : VK), RoomG k (A.deeper (envOfC qual (defScope st) s.heap.objs.size f cdv)) → sp vs H Q →
      ∃ t, PSs (cxOf CX0 P w K mg base N qual (defScope st) f cdv A outer s H E0).nox (defBody st) t ∧ t { nx := fun _ H' => Q .non H', rt := Q } (start N vs) H) : FnG P w K mg base (k + 1) f fd ps sp := by
  obtain ⟨oc, od, kV, doc, pm, an, cdv, ct, osl, rfl, lk, hcd⟩ := F.ex
  refine ⟨len, fun A outer s H args us vs Q hr e0 hb r hsp => ?_⟩
  have hl := len _ _ _ hsp
  have KX : K.In s.heap := e0.mod.kin.keeps fun b o e => (e0.bs b o e).1
  have lim : s.heap.NoLimit := e0.mod.nolimit.keeps fun b o e => (e0.bs b o e).1
  have hkind : ∀ y ∈ ps.zip us, (defScope st).names.lookup y.1 = some .local ∨ ((defScope st).names.lookup y.1 = some .cell ∧ ((cellsFrom (s.heap.objs.size + 1) (defScope st).names []).lookup y.1).isSome = true) := fun ⟨n, v⟩ hy => by
    rcases S.par n (List.of_mem_zip hy).1 with q | q
    · exact .inl q
    · exact .inr ⟨q, PySem.W.cellsFrom_some _ _ _ (.inl q)⟩
  refine codeAny_call_function hr.r.depth (KX _ _ lk) rfl S.co S.gen rfl (PySem.W.codeRec_of KX hcd) (hb _ _ _ _ ?_)
  refine wpAny_newFunctionEnv_cells S.kind hkind fun env he s1 x => ?_
  subst he
  refine ⟨lim.keeps x.toInCall.keep, codeAny_func ?_⟩
  obtain ⟨t, ht0, hq⟩ := hbody cdv A outer s H vs Q (hr.deeper _) hsp
  have ht : PSs (cxOf CX0 P w K mg base N qual (defScope st) f cdv A outer s H E0) (defBody st) t := ht0.nox
  have I : Inv (cxOf CX0 P w K mg base N qual (defScope st) f cdv A outer s H E0) [] (start N vs) H s1 := inv_start S hr.r.hd e0 hl r x
  refine wpAny_mono (ht.run [] s1 (start N vs) H _ I hq) (fun fl s' hs => ?_) fun e s' hs => hs
  have fin : ∀ {σ' : L2.St} {H' : Hp} {v : V} {u : Value}, Inv (cxOf CX0 P w K mg base N qual (defScope st) f cdv A outer s H E0) [] σ' H' s' → RelV v u → Q v H' → CE outer P w H s Q u s' :=
    fun {σ' H' v u} J rv q => ⟨v, H', J.os, J.bare, J.base, J.hok, rv, q⟩
  cases fl with
  | ret u =>
    obtain ⟨v, σ', H', J, rv, q⟩ := hs
    exact fin J rv q
  | next =>
    obtain ⟨σ', H', J, q⟩ := hs
    exact fin (v := V.non) (u := Value.none) J rfl q
  | brk =>
    obtain ⟨_, _, _, q⟩ := hs
    exact False.elim q
  | cont =>
    obtain ⟨_, _, _, q⟩ := hs
    exact False.elim q

/-! ### calls (after L2.run_fn, L2.pe_call) -/
section
variable {X : Cx} {k n : Nat} {f : Addr} {fd : FuncData} {ps ks : List Str} {sp : SpG} {x : Str} {p pos : Pos} {e : Expr} {es : List Expr} {kws : List Keyword} {t tk : TA}
/-- how a call binds: n values by place, then those of the keywords ks; ord: where each parameter's value stands among them -/
def sel {α : Type} (z : α) (ord : List Nat) (l : List α) : List α := ord.map fun i => l.getD i z
def KB (K : PySem.W.Frag) (fd : FuncData) (ps : List Str) (n : Nat) (ks : List Str) (ord : List Nat) : Prop :=
  ∀ (s : Shared) (us ws : List Value), K.In s.heap → us.length = n → ws.length = ks.length → BindsTo s fd ⟨us, ks.zip ws⟩ (ps.zip (sel .none ord (us ++ ws)))
theorem vals_getD : ∀ {vs : List V} {us : List Value} (i : Nat), Vals vs us → RelV (vs.getD i .non) (us.getD i .none)
  | _, _, _, .nil => by show RelV .non .none; rfl
  | _, _, 0, .cons r _ => r
  | _, _, i + 1, .cons _ t => by
    rw [List.getD_cons_succ, List.getD_cons_succ]
    exact vals_getD i t
theorem vals_pick {vs : List V} {us : List Value} (r : Vals vs us) : ∀ ord : List Nat, Vals (sel .non ord vs) (sel .none ord us)
  | [] => .nil
  | i :: ord => .cons (vals_getD i r) (vals_pick r ord)
theorem run_fnG {pins : List (Addr × Obj)} {σ : L2.St} {H : Hp} {s : Shared} {Q : VK} {us ws : List Value} {vs zs : List V} {ord : List Nat} (F : FnG X.prog X.w X.K X.mg X.base k f fd ps sp) (hr : RoomG k X.A) (hb : KB X.K fd ps n ks ord)
    (I : Inv X pins σ H s) (r : Vals vs us) (rz : Vals zs ws) (l1 : vs.length = n) (l2 : zs.length = ks.length) (h : sp (sel .non ord (vs ++ zs)) H Q) : wpAny (model X.prog X.w) X.A (call (.ref f) us (ks.zip ws)) (EP X pins σ Q) X.xe s := by
  refine wpAny_call (codeAny_mono (F.run X.A X.stack s H ⟨us, ks.zip ws⟩ _ _ Q hr I.env0 (hb s us ws I.kIn (r.length.symm.trans l1) (rz.length.symm.trans l2)) (vals_pick (r.append rz) ord) h) fun r s' hq => ?_)
  cases r with
  | error e => exact False.elim hq
  | ok fl =>
    cases fl with
    | ret u => exact I.after hq
    | next => exact False.elim hq
    | brk => exact False.elim hq
    | cont => exact False.elim hq
def tCallG (sp : SpG) (n m : Nat) (ord : List Nat) (t tk : TA) : TE := fun σ H Q => t σ H fun vs H1 => tk σ H1 fun zs H2 => vs.length = n ∧ zs.length = m ∧ sp (sel .non ord (vs ++ zs)) H2 Q
theorem pe_callG {ord : List Nat} (F : FnG X.prog X.w X.K X.mg X.base k f fd ps sp) (hr : RoomG k X.A) (hg : Gl X x) (hm : X.mg x = some (.ref f)) (hk : PySem.W.keepIn X.K (.ref f) = true) (hb : KB X.K fd ps n [] ord)
    (ha : PA X (e :: es) t) (hdb : (x == ("__debug__" : Str)) = false := by decide) (he : starEach (e :: es) X.env = (false, eval e X.env) :: starEach es X.env := by rfl) (hpl : (backTo pos (starEach es X.env)).any (·.1) = false := by rfl) :
    PE X (.Call (.Name x p) (e :: es) [] pos) (tCallG sp n 0 ord t tNil) := by
  refine ⟨fun pins s σ H Q I h => ?_⟩
  refine wpAny_Call_Name_kw (ld_glob I hg hm ?_ hdb)
  refine PySem.W.callWith_K (h₀ := X.base) I.ok.mod.kin hk (thn (ha.run pos pins s σ H _ I h) fun us s1 ⟨vs, H1, I1, r, q⟩ => ⟨I1.kIn, ?_⟩) he hpl
  obtain ⟨l1, l2, q⟩ := q
  exact run_fnG (ws := []) (zs := []) F hr hb I1 r .nil l1 l2 q
theorem pe_callG0 {ord : List Nat} (F : FnG X.prog X.w X.K X.mg X.base k f fd ps sp) (hr : RoomG k X.A) (hg : Gl X x) (hm : X.mg x = some (.ref f)) (hk : PySem.W.keepIn X.K (.ref f) = true) (hb : KB X.K fd ps 0 [] ord)
    (hdb : (x == ("__debug__" : Str)) = false := by decide) : PE X (.Call (.Name x p) [] [] pos) (tCallG sp 0 0 ord tNil tNil) := by
  refine ⟨fun pins s σ H Q I h => ?_⟩
  refine wpAny_Call_Name_kw (ld_glob I hg hm ?_ hdb)
  obtain ⟨l1, l2, q⟩ := h
  exact PySem.W.callWith_K0 I.kIn hk (run_fnG (us := []) (ws := []) (zs := []) F hr hb I .nil .nil l1 l2 q)
theorem pe_callKG {ord : List Nat} (F : FnG X.prog X.w X.K X.mg X.base k f fd ps sp) (hr : RoomG k X.A) (hg : Gl X x) (hm : X.mg x = some (.ref f)) (hk : PySem.W.keepIn X.K (.ref f) = true) (hb : KB X.K fd ps n ks ord)
    (ha : PA X (e :: es) t) (hkw : PK X kws tk) (hall : (backToKw pos (keywordEach kws X.env)).all (·.1.isSome) = true := by rfl) (hks : (backToKw pos (keywordEach kws X.env)).filterMap (·.1) = ks := by rfl)
    (hdb : (x == ("__debug__" : Str)) = false := by decide) (he : starEach (e :: es) X.env = (false, eval e X.env) :: starEach es X.env := by rfl)
    (hpl : ((backTo pos (starEach (e :: es) X.env)).any (·.1) || (backToKw pos (keywordEach kws X.env)).any (·.1.isNone)) = false := by rfl) :
    PE X (.Call (.Name x p) (e :: es) kws pos) (tCallG sp n ks.length ord t tk) := by
  refine ⟨fun pins s σ H Q I h => ?_⟩
  refine wpAny_Call_Name_kw (ld_glob I hg hm ?_ hdb)
  refine PySem.W.callWith_KW (h₀ := X.base) I.ok.mod.kin hk hall (thn (ha.run pos pins s σ H _ I h) fun us s1 ⟨vs, H1, I1, r, q⟩ => ?_) hpl he
  refine thn (hkw.run pos pins s1 σ H1 _ I1 q) fun ws s2 ⟨zs, H2, I2, rz, q2⟩ => ⟨I2.kIn, ?_⟩
  rw [hks]
  obtain ⟨l1, l2, q⟩ := q2
  exact run_fnG F hr hb I2 r rz l1 l2 q
theorem pe_callKG0 {ord : List Nat} (F : FnG X.prog X.w X.K X.mg X.base k f fd ps sp) (hr : RoomG k X.A) (hg : Gl X x) (hm : X.mg x = some (.ref f)) (hk : PySem.W.keepIn X.K (.ref f) = true) (hb : KB X.K fd ps 0 ks ord)
    (hkw : PK X kws tk) (hall : (backToKw pos (keywordEach kws X.env)).all (·.1.isSome) = true := by rfl) (hks : (backToKw pos (keywordEach kws X.env)).filterMap (·.1) = ks := by rfl)
    (hdb : (x == ("__debug__" : Str)) = false := by decide)
    (hpl : (backToKw pos (keywordEach kws X.env)).any (·.1.isNone) = false := by rfl) :
    PE X (.Call (.Name x p) [] kws pos) (tCallG sp 0 ks.length ord tNil tk) := by
  refine ⟨fun pins s σ H Q I h => ?_⟩
  refine wpAny_Call_Name_kw (ld_glob I hg hm ?_ hdb)
  refine PySem.W.callWith_KW0 (h₀ := X.base) I.ok.mod.kin hk hall (thn (hkw.run pos pins s σ H _ I h) fun ws s2 ⟨zs, H2, I2, rz, q2⟩ => ⟨I2.kIn, ?_⟩) hpl
  rw [hks]
  obtain ⟨l1, l2, q⟩ := q2
  exact run_fnG (us := []) (vs := []) F hr hb I2 .nil rz l1 l2 q
end
end Rg
/-! Rg, part S: a def's promise told by its denotation; its calls. -/
namespace Rg
open PySem L2

/-- an argument: data, or the pot -/
inductive Ar where
  | d (x : PyData) | p
abbrev DF := List Ar → Option PotSt → Option (Vl × Option PotSt)
inductive ArsOk (B : Bs) (F : Hp) (pa : Option (Addr × Addr)) : List Ar → List V → Prop
  | nil : ArsOk B F pa [] []
  | d {x : PyData} {v : V} {as : List Ar} {vs : List V} : B.Rep F x v → ArsOk B F pa as vs → ArsOk B F pa (.d x :: as) (v :: vs)
  | p {p g : Addr} {as : List Ar} {vs : List V} : pa = some (p, g) → ArsOk B F pa as vs → ArsOk B F pa (.p :: as) (.ref p :: vs)
theorem ArsOk.length {B : Bs} {F : Hp} {pa : Option (Addr × Addr)} : ∀ {as : List Ar} {vs : List V}, ArsOk B F pa as vs → as.length = vs.length
  | _, _, .nil => rfl
  | _, _, .d _ t => congrArg (· + 1) t.length
  | _, _, .p _ t => congrArg (· + 1) t.length
/-- a call's result -/
def ResOk (B : Bs) (pa : Option (Addr × Addr)) (H F' : Hp) (H' : Hp) (v : V) : Vl → Prop
  | .fz d => B.Rep F' d v
  | .fr d => ∃ a, v = .ref a ∧ F' a = none ∧ H a = none ∧ OffPot pa a ∧ ∃ o, H' a = some o ∧ Cell B.P B.w B.K F' d a o
  | _ => False
def mkB (P : Program) (w : World) (K : PySem.W.Frag) (L : PotLay) (H F : Hp) (pa : Option (Addr × Addr)) : Bs := ⟨P, w, K, L, H, F, pa⟩
def spD (P : Program) (w : World) (K : PySem.W.Frag) (L : PotLay) (n : Nat) (D : DF) : SpG := fun vs H Q => ∃ F pa as st r st', vs.length = n ∧ Same F H ∧ ArsOk (mkB P w K L H F pa) F pa as vs ∧ PotOk (mkB P w K L H F pa) F pa st H ∧ D as st = some (r, st') ∧
  ∀ v F' H', Back (mkB P w K L H F pa) pa F H F' H' st' → ResOk (mkB P w K L H F pa) pa H F' H' v r → Q v H'

/-! ### a def by its body -/
def slAr : Ar → Sl
  | .d x => .fz x
  | .p => .pt
/-- n slots, the arguments ahead -/
def envOf (n : Nat) (as : List Ar) : List (Option Sl) := as.map (fun a => some (slAr a)) ++ List.replicate (n - as.length) none
def samePot : Option PotSt → Option PotSt → Bool
  | none, none => true
  | some _, some _ => true
  | _, _ => false
def runDef (n np : Nat) (f : DS) : DF := fun as st => if as.length = np then match f ⟨envOf n as, st⟩ with
  | some (.rt (.fz d), s) => if samePot st s.pot then some (.fz d, s.pot) else none
  | some (.rt (.fr d), s) => if samePot st s.pot then some (.fr d, s.pot) else none
  | some (.nx, s) => if samePot st s.pot then some (.fz .none, s.pot) else none
  | _ => none
  else none
section
variable {P : Program} {w : World} {K : PySem.W.Frag} {L : PotLay} {F H : Hp} {pa : Option (Addr × Addr)}
theorem ArsOk.at {B : Bs} : ∀ {as : List Ar} {vs : List V} {i : Nat} {a : Ar}, ArsOk B F pa as vs → as[i]? = some a → ∃ v, vs[i]? = some v ∧ match a with
    | .d x => B.Rep F x v
    | .p => ∃ p g, pa = some (p, g) ∧ v = .ref p
  | _, _, _, _, .nil, e => by simp at e
  | _, _, 0, _, .d h _, e => by simp at e; subst e; exact ⟨_, rfl, h⟩
  | _, _, 0, _, .p h _, e => by simp at e; subst e; exact ⟨_, rfl, _, _, h, rfl⟩
  | _, _, i + 1, _, .d _ t, e => by
    obtain ⟨v, h1, h2⟩ := ArsOk.at (i := i) t (by simpa using e)
    exact ⟨v, by simpa using h1, h2⟩
  | _, _, i + 1, _, .p _ t, e => by
    obtain ⟨v, h1, h2⟩ := ArsOk.at (i := i) t (by simpa using e)
    exact ⟨v, by simpa using h1, h2⟩
theorem env_at {n i : Nat} {as : List Ar} {y : Sl} (h : (envOf n as)[i]? = some (some y)) : ∃ a, as[i]? = some a ∧ y = slAr a := by
  unfold envOf at h
  by_cases hi : i < as.length
  · rw [List.getElem?_append_left (by simpa using hi), List.getElem?_map] at h
    obtain ⟨a, h1, h2⟩ := Option.map_eq_some_iff.mp h
    exact ⟨a, h1, (Option.some.inj h2).symm⟩
  · rw [List.getElem?_append_right (by simpa using hi), List.getElem?_replicate] at h
    split at h <;> cases h
theorem start_at {N : List Str} {vs : List V} {i : Nat} {v : V} (h : vs[i]? = some v) : σAt (L2.start N vs) i v := by
  unfold σAt L2.start
  have hi := (List.getElem?_eq_some_iff.mp h).1
  rw [List.getElem?_append_left (by simpa using hi), List.getElem?_map, h]
  rfl
/-- the entry -/
theorem J.entry {N : List Str} {as : List Ar} {vs : List V} {st : Option PotSt} (sf : Same F H) (ha : ArsOk (mkB P w K L H F pa) F pa as vs) (hp : PotOk (mkB P w K L H F pa) F pa st H) : J (mkB P w K L H F pa) F pa ⟨envOf N.length as, st⟩ (L2.start N vs) [] H := by
  have hl := ha.length
  refine ⟨sf, fun a o e _ => e, fun a o e => .inl e, .refl F, .inl rfl, ?_, fun i d e => ?_, fun i d e => ?_, fun i e => ?_, fun i j d e q q' r => ?_, fun t ht => (nomatch ht), .nil, fun t ht => (nomatch ht), hp, ⟨fun i e => ?_, fun i ns e => ?_⟩⟩
  · show (envOf N.length as).length = _
    unfold envOf L2.start
    simp [hl]
  · obtain ⟨a, h1, h2⟩ := env_at e
    obtain ⟨v, h3, h4⟩ := ha.at h1
    cases a with
    | d x => cases h2; exact ⟨v, start_at h3, h4⟩
    | p => cases h2
  · obtain ⟨a, h1, h2⟩ := env_at e
    cases a <;> cases h2
  · obtain ⟨a, h1, h2⟩ := env_at e
    obtain ⟨v, h3, h4⟩ := ha.at h1
    cases a with
    | d x => cases h2
    | p =>
      obtain ⟨p, g, e1, e2⟩ := h4
      subst e2
      exact ⟨p, g, e1, start_at h3⟩
  · obtain ⟨a, h1, h2⟩ := env_at q
    cases a <;> cases h2
  · obtain ⟨a, h1, h2⟩ := env_at e
    cases a <;> cases h2
  · obtain ⟨a, h1, h2⟩ := env_at e
    cases a <;> cases h2
/-- the end -/
theorem J.exit {B : Bs} {st : Option PotSt} {F' H' : Hp} {pa' : Option (Addr × Addr)} {s : S} {σ : St} {T : List (Vl × V)} (hp : PotOk (mkB P w K L H F pa) F pa st H) (j : J (mkB P w K L H F pa) F' pa' s σ T H') (hs : samePot st s.pot = true) :
    pa' = pa ∧ Back (mkB P w K L H F pa) pa F H F' H' s.pot := by
  have e : pa' = pa := by
    rcases j.pa0 with e | ⟨e, _⟩
    · exact e
    · have e : pa = none := e
      subst e
      have h1 : st = none := by
        cases st with
        | none => rfl
        | some z => exact hp.elim
      subst h1
      have hpot := j.pot
      cases hs2 : s.pot with
      | some z => rw [hs2] at hs; cases hs
      | none =>
        rw [hs2] at hpot
        cases pa' with
        | none => rfl
        | some z => exact hpot.elim
  subst e
  exact ⟨rfl, j.f0, j.sub, j.fnew, j.keep, j.pot⟩
theorem fn_D {mg : Str → Option Value} {base : Heap} {k : Nat} {f : Addr} {fd : FuncData} {qual x : Str} {st : Stmt} {N ps : List Str} {fs : DS} (Fn : Fun K x qual st f fd) (S : FnScope N ps (defScope st))
    (hbody : ∀ (cdv : Value) (A : Around) (outer : List Env) (s : Shared) (H : Hp) (B : Bs), Fit B (cxOf CX0 P w K mg base N qual (defScope st) f cdv A outer s H E0).nox k → B.L = L → EB B (cxOf CX0 P w K mg base N qual (defScope st) f cdv A outer s H E0).nox (defBody st) fs) :
    FnG P w K mg base (k + 1) f fd ps (spD P w K L ps.length (runDef N.length ps.length fs)) := by
  refine fnG_of (N := N) Fn S (fun vs H Q h => ?_) fun cdv A outer s H vs Q hr h => ?_
  · obtain ⟨F, pa, as, st, r, st', h1, _⟩ := h
    exact h1
  · obtain ⟨F, pa, as, st0, r, st', hl, sf, ha, hp, hD, q⟩ := h
    have ft : Fit (mkB P w K L H F pa) (cxOf CX0 P w K mg base N qual (defScope st) f cdv A outer s H E0).nox k := ⟨rfl, rfl, rfl, hr, rfl⟩
    have hb := hbody cdv A outer s H (mkB P w K L H F pa) ft rfl
    refine ⟨_, hb.ps, ?_⟩
    unfold runDef at hD
    split at hD
    · split at hD
      · rename_i d s1 h1
        split at hD
        · rename_i hs
          cases hD
          refine ⟨F, pa, _, [], _, s1, fun t ht => (nomatch ht), J.entry sf ha hp, h1, fun F' pa' σ' v H' j' => ?_⟩
          obtain ⟨e, bk⟩ := J.exit (B := mkB P w K L H F pa) hp j' hs
          subst e
          exact q v F' H' bk (j'.tmp _ List.mem_cons_self)
        · cases hD
      · rename_i d s1 h1
        split at hD
        · rename_i hs
          cases hD
          refine ⟨F, pa, _, [], _, s1, fun t ht => (nomatch ht), J.entry sf ha hp, h1, fun F' pa' σ' v H' j' => ?_⟩
          obtain ⟨e, bk⟩ := J.exit (B := mkB P w K L H F pa) hp j' hs
          subst e
          obtain ⟨a, e1, ow⟩ := j'.tmp _ List.mem_cons_self
          exact q v F' H' bk ⟨a, e1, ow.f, ow.h0, ow.off, ow.cell⟩
        · cases hD
      · rename_i s1 h1
        split at hD
        · rename_i hs
          cases hD
          refine ⟨F, pa, _, [], _, s1, fun t ht => (nomatch ht), J.entry sf ha hp, h1, fun F' pa' σ' H' j' => ?_⟩
          obtain ⟨e, bk⟩ := J.exit (B := mkB P w K L H F pa) hp j' hs
          subst e
          exact q .non F' H' bk .non
        · cases hD
      · cases hD
    · cases hD
end

/-! ### calls -/
/-- the arguments as the callee sees them -/
def arOf (s : S) : Vl → Option Ar
  | .pt => some .p
  | .fz d => some (.d d)
  | .sl i => (cont s (.sl i)).map .d
  | _ => none
def arsOf (s : S) : List Vl → Option (List Ar)
  | [] => some []
  | x :: xs => match arOf s x, arsOf s xs with
    | some a, some as => some (a :: as)
    | _, _ => none
/-- is slot i among the values -/
def hasSl (xs : List Vl) (i : Nat) : Bool := xs.any fun x => match x with
  | .sl j => i == j
  | _ => false
/-- nothing lent, or nothing of what was lent may come back -/
def keepsOwn (xs : List Vl) : Vl → Bool
  | .fz d => noSls xs || clean d
  | .fr d => noSls xs || cleanIn d
  | _ => false
def callS (D : DF) (xs : List Vl) (s : S) : Option (Vl × S) := match arsOf s xs with
  | some as => match D as s.pot with
    | some (r, st) => if keepsOwn xs r then some (r, { s with pot := st }) else some (r, { s.frzI (hasSl xs) with pot := st })
    | none => none
  | none => none
section
variable {B : Bs} {X : Cx} {k n : Nat} {F : Hp} {pa : Option (Addr × Addr)} {s s' : S} {σ : St} {T : List (Vl × V)} {H : Hp}
theorem PotOk.lent (j : J B F pa s σ T H) {I : Nat → Bool} : PotOk B (lent s σ F H I) pa s.pot H := by
  refine j.pot.at' (fun p g e => ?_) fun _ _ _ => ⟨rfl, rfl⟩
  obtain ⟨z, _, _, h1, h2⟩ := j.pot.some_of e
  have key : ∀ a, (a = p ∨ a = g) → F a = none → Rg.lent s σ F H I a = none := fun a ha h => by
    cases q : Rg.lent s σ F H I a with
    | none => rfl
    | some o =>
      rcases lent_cases q with q | ⟨_, l, _⟩
      · rw [h] at q; cases q
      · obtain ⟨_, _, _, _, _, x⟩ := j.lentAt_own l
        obtain ⟨n1, n2⟩ := x.off p g e
        rcases ha with z | z
        · exact absurd z n1
        · exact absurd z n2
  rw [h1, h2]
  exact ⟨key p (.inl rfl) h1, key g (.inr rfl) h2⟩
theorem hasSl_mem {xs : List Vl} {i : Nat} (h : Vl.sl i ∈ xs) : hasSl xs i = true := List.any_eq_true.mpr ⟨_, h, by simp⟩
theorem J.ars {B2 : Bs} (hP : B2.P = B.P) (hw : B2.w = B.w) (hK : B2.K = B.K) (j : J B F pa s σ T H) {I : Nat → Bool} : ∀ {xs : List Vl} {vs : List V} {as : List Ar}, xs.length = vs.length → (∀ p ∈ xs.zip vs, p ∈ T) → (∀ i, Vl.sl i ∈ xs → I i = true) → arsOf s xs = some as →
    ArsOk B2 (lent s σ F H I) pa as vs
  | [], [], as, _, _, _, h => by cases h; exact .nil
  | [], _ :: _, _, e, _, _, _ => by cases e
  | _ :: _, [], _, e, _, _, _ => by cases e
  | x :: xs, v :: vs, as, e, hm, hI, h => by
    unfold arsOf at h
    split at h
    · rename_i a as' h1 h2
      cases h
      have r := J.ars hP hw hK j (vs := vs) (by simpa using e) (fun p hp => hm p (List.mem_cons_of_mem _ hp)) (fun i hi => hI i (List.mem_cons_of_mem _ hi)) h2
      have tx := j.tmp _ (hm (x, v) List.mem_cons_self)
      have key : ∀ {d}, x.isFr = false → cont s x = some d → B2.Rep (lent s σ F H I) d v := fun {d} hf hc => by
        have := j.lentVal (I := I) tx hf (fun i e => hI i (e ▸ List.mem_cons_self)) hc
        unfold Bs.Rep at this ⊢
        rw [hP, hw, hK]; exact this
      cases x with
      | fz d => cases h1; exact .d (key rfl rfl) r
      | fr d => cases h1
      | pt =>
        cases h1
        obtain ⟨p, g, e1, e2⟩ := tx
        subst e2
        exact .p e1 r
      | gr => cases h1
      | ob o => cases h1
      | sl i =>
        obtain ⟨d, hd, ea⟩ := Option.map_eq_some_iff.mp h1
        subst ea
        exact .d (key rfl hd) r
    · cases h
theorem frzI_id {s : S} {I : Nat → Bool} (h : ∀ i, I i = false) : s.frzI I = s := by
  have e : s.env.mapIdx (frzSlot I) = s.env := by
    refine List.ext_getElem? fun i => ?_
    rw [List.getElem?_mapIdx]
    cases s.env[i]? with
    | none => rfl
    | some x =>
      cases x with
      | none => rfl
      | some y =>
        cases y with
        | fz d => rfl
        | pt => rfl
        | gr => rfl
        | sc ns => rfl
        | own d => show some (if I i = true then _ else _) = _; rw [h i]; rfl
  show ({ s with env := s.env.mapIdx (frzSlot I) } : S) = s
  rw [e]
theorem noSls_has {xs : List Vl} (h : noSls xs = true) (i : Nat) : hasSl xs i = false := by
  cases e : hasSl xs i with
  | false => rfl
  | true =>
    obtain ⟨x, hx, h2⟩ := List.any_eq_true.mp e
    have := noSls_mem h x hx
    cases x with
    | sl j => cases this
    | fz _ => cases h2
    | fr _ => cases h2
    | pt => cases h2
    | gr => cases h2
    | ob _ => cases h2
/-- a new object of a callee is put on top -/
theorem J.pushNew {d : PyData} {a : Addr} {H0 : Hp} {F' : Hp} (j : J B F' pa s σ T H) (hT : ∀ t ∈ T, t.1.isFr = true → ∃ b u, t.2 = .ref b ∧ H0 b = some u) (hO : ∀ i e b, ownAt s i e → σAt σ i (.ref b) → ∃ u, H0 b = some u)
    (f : F' a = none) (h0 : H0 a = none) (hB : B.H0 a = none) (off : OffPot pa a) (c : ∃ o, H a = some o ∧ Cell B.P B.w B.K F' d a o) : J B F' pa s σ ((.fr d, .ref a) :: T) H := by
  refine ⟨j.sub, j.keep, j.fnew, j.f0, j.pa0, j.len, j.fzs, j.own, j.pts, j.une, fun t ht => ?_, List.pairwise_cons.mpr ⟨fun t ht _ e q => ?_, j.tne⟩, fun t ht e i d' hi q => ?_, j.pot, j.ext⟩
  · rcases List.mem_cons.mp ht with rfl | ht
    · exact ⟨a, rfl, f, hB, off, c⟩
    · exact j.tmp t ht
  · obtain ⟨b, u, e1, e2⟩ := hT t ht e
    have q' : V.ref a = t.2 := q
    rw [e1] at q'
    injection q' with q'
    rw [← q', h0] at e2; cases e2
  · rcases List.mem_cons.mp ht with rfl | ht
    · obtain ⟨u, e2⟩ := hO i d' a hi q
      rw [h0] at e2; cases e2
    · exact j.tse t ht e i d' hi q
theorem Back.cast {B B2 : Bs} {Fl F' H' : Hp} {st' : Option PotSt} (b : Back B pa Fl H F' H' st') (h : B.L = B2.L) : Back B2 pa Fl H F' H' st' := by
  refine ⟨b.sf, b.sh, b.fn, b.keep, ?_⟩
  have := b.pot
  unfold PotOk at this ⊢
  cases pa with
  | none =>
    cases st' with
    | none => trivial
    | some _ => exact this
  | some z =>
    obtain ⟨p, g⟩ := z
    cases st' with
    | none => exact this
    | some st =>
      have this' : B.L.pr st p g H' ∧ F' p = none ∧ F' g = none := this
      show B2.L.pr st p g H' ∧ F' p = none ∧ F' g = none
      rw [← h]; exact this'
theorem call_read {D : DF} {xs : List Vl} {vs : List V} {TT : List (Vl × V)} {r : Vl} {Q : VK} (j : J B F pa s σ TT H) (hl : xs.length = vs.length) (hm : ∀ p ∈ xs.zip vs, p ∈ TT) (hsub : T.Sublist TT) (hc : callS D xs s = some (r, s')) (hn : vs.length = n)
    (q : ∀ F' pa' v H', J B F' pa' s' σ ((r, v) :: T) H' → Q v H') : spD B.P B.w B.K B.L n D vs H Q := by
  unfold callS at hc
  split at hc
  · rename_i as h1
    split at hc
    · rename_i r' st h2
      have ha := J.ars (B := B) (B2 := mkB B.P B.w B.K B.L H (lent s σ F H (hasSl xs)) pa) rfl rfl rfl j (I := hasSl xs) hl hm (fun i h => hasSl_mem h) h1
      refine ⟨lent s σ F H (hasSl xs), pa, as, s.pot, r', st, hn, j.lentH, ha, PotOk.lent j, h2, fun v F' H' bk0 res => ?_⟩
      have bk : Back B pa (lent s σ F H (hasSl xs)) H F' H' st := bk0.cast (B2 := B) rfl
      have hT0 : ∀ t ∈ T, t.1.isFr = true → ∃ b u, t.2 = .ref b ∧ H b = some u := fun t ht e => by
        have := j.tmp t (hsub.subset ht)
        obtain ⟨y, u⟩ := t
        cases y with
        | fr d =>
          obtain ⟨b, e1, ow⟩ := this
          obtain ⟨z, hz⟩ := ow.some
          exact ⟨b, z, e1, hz⟩
        | fz _ => cases e
        | sl _ => cases e
        | pt => cases e
        | gr => cases e
        | ob _ => cases e
      have hO0 : ∀ i e b, ownAt s i e → σAt σ i (.ref b) → ∃ u, H b = some u := fun i e b h1 h2 => by
        obtain ⟨a, h3, ow⟩ := j.own i e h1
        have e2 := h2.inj h3
        cases e2
        exact ow.some
      have hB0 : ∀ {a}, H a = none → B.H0 a = none := fun h => j.h0none h
      split at hc
      · rename_i hk
        cases hc
        cases hns : noSls xs with
        | true =>
          have hI := noSls_has hns
          have j1 := (j.back bk).sub_T hsub
          rw [frzI_id hI] at j1
          cases r with
          | fz d => exact q F' pa v H' (j1.pushFz res)
          | fr d =>
            obtain ⟨a, e, f, h0, off, c⟩ := res
            subst e
            exact q F' pa _ H' (j1.pushNew (H0 := H) hT0 (fun i e b h1 h2 => hO0 i e b h1 h2) f h0 (hB0 h0) off c)
          | sl _ => exact res.elim
          | pt => exact res.elim
          | gr => exact res.elim
          | ob _ => exact res.elim
        | false =>
          obtain ⟨F2, j0, ht, hnn⟩ := j.backC bk
          have j1 := j0.sub_T hsub
          cases r with
          | fz d =>
            have hcl : clean d = true := by
              have hk' : (noSls xs || clean d) = true := hk
              rw [hns, Bool.false_or] at hk'
              exact hk'
            exact q F2 pa v H' (j1.pushFz (RepD.tups ht hcl res))
          | fr d =>
            have hcl : cleanIn d = true := by
              have hk' : (noSls xs || cleanIn d) = true := hk
              rw [hns, Bool.false_or] at hk'
              exact hk'
            obtain ⟨a, e, f, h0, off, o, ho, c⟩ := res
            subst e
            exact q F2 pa _ H' (j1.pushNew (H0 := H) hT0 (fun i e b h1 h2 => hO0 i e b h1 h2) (hnn a f) h0 (hB0 h0) off ⟨o, ho, c.tups ht hcl⟩)
          | sl _ => exact res.elim
          | pt => exact res.elim
          | gr => exact res.elim
          | ob _ => exact res.elim
      · rename_i hk
        cases hc
        have j1 := (j.back bk).sub_T hsub
        cases r with
        | fz d => exact q F' pa v H' (j1.pushFz res)
        | fr d =>
          obtain ⟨a, e, f, h0, off, c⟩ := res
          subst e
          exact q F' pa _ H' (j1.pushNew (H0 := H) hT0 (fun i e b h1 h2 => hO0 i e b (frzI_own h1).1 h2) f h0 (hB0 h0) off c)
        | sl _ => exact res.elim
        | pt => exact res.elim
        | gr => exact res.elim
        | ob _ => exact res.elim
    · cases hc
  · cases hc

/-- f(e, .., k = v, ..): the values in the order in which they are written; sel puts them in the parameters' order -/
def dCallF (D : DF) (n m : Nat) (ord : List Nat) (g gk : DEs) : DE := fun s => match g s with
  | some (xs, s1) => match gk s1 with
    | some (zs, s2) => if xs.length = n ∧ zs.length = m ∧ ord.all (· < n + m) = true then callS D (sel (.ob (.lst [])) ord (xs ++ zs)) s2 else none
    | none => none
  | none => none
variable {f : Addr} {fd : FuncData} {ps ks : List Str} {x : Str} {p pos : Pos} {e : Expr} {es : List Expr} {kws : List Keyword} {g gk : DEs} {D : DF} {ord : List Nat}
structure EK (B : Bs) (X : Cx) (kws : List Keyword) (f : DEs) : Prop where
  pk : PK X kws (tDs B f)
theorem ek_nil : EK B X [] dNil := ⟨⟨fun pos pins s σ H Q I ⟨F, pa, s1, T, xs, s', j, hf, q⟩ => pk_nil.run pos pins s σ H Q I (by cases hf; exact q F pa [] H rfl j)⟩⟩
theorem ek_cons {fe : DE} {nm : Option Str} {kpos : Pos} (h : EV B X e fe) (hr : EK B X kws g) : EK B X (⟨nm, e, kpos⟩ :: kws) (dCons fe g) := by
  refine ⟨⟨fun pos pins s σ H Q I ⟨F, pa, s1, T, xs, s', j, hf, q⟩ => (pk_cons h.set.pe hr.pk).run pos pins s σ H Q I ?_⟩⟩
  unfold dCons at hf
  split at hf
  · rename_i x s2 h1
    split at hf
    · rename_i ys s3 h2
      cases hf
      refine ⟨F, pa, s1, T, x, s2, j, h1, fun F1 pa1 v H1 j1 => ?_⟩
      exact ⟨F1, pa1, s2, _, ys, _, j1, h2, fun F2 pa2 vs H2 hl j2 => q F2 pa2 (v :: vs) H2 (by simp [hl]) j2⟩
    · cases hf
  · cases hf
theorem sel_zip {xs : List Vl} {vs : List V} (hl : xs.length = vs.length) : ∀ {ord : List Nat}, (∀ i ∈ ord, i < xs.length) → ∀ p ∈ (sel (.ob (.lst [])) ord xs).zip (sel V.non ord vs), p ∈ xs.zip vs
  | [], _, p, h => by cases h
  | i :: ord, hi, p, h => by
    have h' : p ∈ (xs.getD i (.ob (.lst [])), vs.getD i V.non) :: (sel (.ob (.lst [])) ord xs).zip (sel V.non ord vs) := h
    rcases List.mem_cons.mp h' with rfl | h'
    · have h1 := hi i List.mem_cons_self
      have h2 : i < vs.length := by rw [← hl]; exact h1
      refine List.mem_iff_getElem?.mpr ⟨i, ?_⟩
      rw [List.getElem?_zip_eq_some]
      simp [List.getD, h1, h2]
    · exact sel_zip hl (fun j hj => hi j (List.mem_cons_of_mem _ hj)) p h'
theorem sel_len {α : Type} {z : α} {ord : List Nat} {l : List α} : (sel z ord l).length = ord.length := by unfold sel; simp
theorem onT_app {xs zs : List Vl} {vs us : List V} (hl : xs.length = vs.length) : onT zs us (onT xs vs T) = onT (xs ++ zs) (vs ++ us) T := by
  induction xs generalizing vs T with
  | nil =>
    cases vs with
    | nil => rfl
    | cons _ _ => cases hl
  | cons x xs ih =>
    cases vs with
    | nil => cases hl
    | cons v vs => exact ih (by simpa using hl)
theorem callF_read {F pa s σ T H r s'} {Q : VK} {m : Nat} (j : J B F pa s σ T H) (hf : dCallF D n m ord g gk s = some (r, s')) (q : ∀ F' pa' v H', J B F' pa' s' σ ((r, v) :: T) H' → Q v H') :
    tCallG (spD B.P B.w B.K B.L ord.length D) n m ord (tDs B g) (tDs B gk) σ H Q := by
  unfold dCallF at hf
  split at hf
  · rename_i xs s1 h1
    split at hf
    · rename_i zs s2 h2
      split at hf
      · rename_i hc
        obtain ⟨l1, l2, l3⟩ := hc
        refine ⟨F, pa, s, T, xs, s1, j, h1, fun F1 pa1 vs H1 hl1 j1 => ?_⟩
        refine ⟨F1, pa1, s1, _, zs, s2, j1, h2, fun F2 pa2 us H2 hl2 j2 => ⟨by rw [← hl1]; exact l1, by rw [← hl2]; exact l2, ?_⟩⟩
        rw [onT_app hl1] at j2
        have hlen : (xs ++ zs).length = (vs ++ us).length := by simp [hl1, hl2]
        refine call_read j2 (by rw [sel_len, sel_len]) (fun p hp => ?_) (onT_sub (xs ++ zs) (vs ++ us) T) hf sel_len q
        refine onT_mem _ _ _ p (sel_zip hlen (fun i hi => ?_) p hp)
        have := List.all_eq_true.mp l3 i hi
        rw [List.length_append, l1, l2]
        simpa using this
      · cases hf
    · cases hf
  · cases hf
theorem ev_call (ft : Fit B X k) (Fn : FnG X.prog X.w X.K X.mg X.base k f fd ps (spD X.prog X.w X.K B.L ord.length D)) (hg : Gl X x) (hm : X.mg x = some (.ref f)) (hk : PySem.W.keepIn X.K (.ref f) = true) (hb : KB X.K fd ps n [] ord)
    (ha : EA B X (e :: es) g) (hdb : (x == ("__debug__" : Str)) = false := by decide) (he : starEach (e :: es) X.env = (false, eval e X.env) :: starEach es X.env := by rfl) (hpl : (backTo pos (starEach es X.env)).any (·.1) = false := by rfl) :
    EV B X (.Call (.Name x p) (e :: es) [] pos) (dCallF D n 0 ord g dNil) := by
  refine .of (pe_callG Fn ft.room hg hm hk hb ha.pa hdb he hpl) fun F pa s σ T H Q x s' j hf q => ?_
  rw [ft.p, ft.w, ft.kk]
  obtain ⟨F1, pa1, s1, T1, xs, s1', j1, hf1, q1⟩ := callF_read j hf q
  refine ⟨F1, pa1, s1, T1, xs, s1', j1, hf1, fun F2 pa2 vs H2 hl j2 => ?_⟩
  obtain ⟨F3, pa3, s3, T3, zs, s3', j3, hf3, q3⟩ := q1 F2 pa2 vs H2 hl j2
  cases hf3
  exact q3 F3 pa3 [] H2 rfl j3
theorem ev_call0 (ft : Fit B X k) (Fn : FnG X.prog X.w X.K X.mg X.base k f fd ps (spD X.prog X.w X.K B.L ord.length D)) (hg : Gl X x) (hm : X.mg x = some (.ref f)) (hk : PySem.W.keepIn X.K (.ref f) = true) (hb : KB X.K fd ps 0 [] ord)
    (hdb : (x == ("__debug__" : Str)) = false := by decide) : EV B X (.Call (.Name x p) [] [] pos) (dCallF D 0 0 ord dNil dNil) := by
  refine .of (pe_callG0 Fn ft.room hg hm hk hb hdb) fun F pa s σ T H Q x s' j hf q => ?_
  rw [ft.p, ft.w, ft.kk]
  obtain ⟨F1, pa1, s1, T1, xs, s1', j1, hf1, q1⟩ := callF_read j hf q
  cases hf1
  obtain ⟨F3, pa3, s3, T3, zs, s3', j3, hf3, q3⟩ := q1 F1 pa1 [] H rfl j1
  cases hf3
  exact q3 F3 pa3 [] H rfl j3
theorem ev_callK (ft : Fit B X k) (Fn : FnG X.prog X.w X.K X.mg X.base k f fd ps (spD X.prog X.w X.K B.L ord.length D)) (hg : Gl X x) (hm : X.mg x = some (.ref f)) (hk : PySem.W.keepIn X.K (.ref f) = true) (hb : KB X.K fd ps n ks ord)
    (ha : EA B X (e :: es) g) (hkw : EK B X kws gk) (hall : (backToKw pos (keywordEach kws X.env)).all (·.1.isSome) = true := by rfl) (hks : (backToKw pos (keywordEach kws X.env)).filterMap (·.1) = ks := by rfl)
    (hdb : (x == ("__debug__" : Str)) = false := by decide) (he : starEach (e :: es) X.env = (false, eval e X.env) :: starEach es X.env := by rfl)
    (hpl : ((backTo pos (starEach (e :: es) X.env)).any (·.1) || (backToKw pos (keywordEach kws X.env)).any (·.1.isNone)) = false := by rfl) :
    EV B X (.Call (.Name x p) (e :: es) kws pos) (dCallF D n ks.length ord g gk) := by
  refine .of (pe_callKG Fn ft.room hg hm hk hb ha.pa hkw.pk hall hks hdb he hpl) fun F pa s σ T H Q x s' j hf q => ?_
  rw [ft.p, ft.w, ft.kk]
  exact callF_read j hf q
theorem ev_callK0 (ft : Fit B X k) (Fn : FnG X.prog X.w X.K X.mg X.base k f fd ps (spD X.prog X.w X.K B.L ord.length D)) (hg : Gl X x) (hm : X.mg x = some (.ref f)) (hk : PySem.W.keepIn X.K (.ref f) = true) (hb : KB X.K fd ps 0 ks ord)
    (hkw : EK B X kws gk) (hall : (backToKw pos (keywordEach kws X.env)).all (·.1.isSome) = true := by rfl) (hks : (backToKw pos (keywordEach kws X.env)).filterMap (·.1) = ks := by rfl)
    (hdb : (x == ("__debug__" : Str)) = false := by decide) (hpl : (backToKw pos (keywordEach kws X.env)).any (·.1.isNone) = false := by rfl) :
    EV B X (.Call (.Name x p) [] kws pos) (dCallF D 0 ks.length ord dNil gk) := by
  refine .of (pe_callKG0 Fn ft.room hg hm hk hb hkw.pk hall hks hdb hpl) fun F pa s σ T H Q x s' j hf q => ?_
  rw [ft.p, ft.w, ft.kk]
  obtain ⟨F1, pa1, s1, T1, xs, s1', j1, hf1, q1⟩ := callF_read j hf q
  cases hf1
  exact q1 F1 pa1 [] H rfl j1
end
end Rg
/-! Rg, part T: built-in calls by values. -/
namespace Rg
open PySem L2

section
variable {B : Bs} {X : Cx} {k : Nat} {F : Hp} {pa : Option (Addr × Addr)} {s : S} {σ : L2.St} {T : List (Vl × V)} {H : Hp}

theorem tops1 {d : PyData} {vs : List V} (h : Tops B.P B.w B.K F H [d] vs) : ∃ v, vs = [v] ∧ B.Top F H d v := by
  cases h with
  | cons h t => cases t; exact ⟨_, rfl, h⟩
theorem tops2 {d e : PyData} {vs : List V} (h : Tops B.P B.w B.K F H [d, e] vs) : ∃ v u, vs = [v, u] ∧ B.Top F H d v ∧ B.Top F H e u := by
  cases h with
  | cons h t => cases t with
    | cons h2 t2 => cases t2; exact ⟨_, _, rfl, h, h2⟩
/-! ### abs, int, len -/
def opAbs : OpN
  | [.int i] => some (.fz (.int (if i < 0 then -i else i)))
  | _ => none
theorem abs_ok : CallOk B X (.builtin "abs") opAbs := by
  refine ⟨_, call_abs, fun F pa s σ T H Q ds vs z j ts h q => ?_⟩
  unfold opAbs at h
  split at h
  · cases h
    obtain ⟨v, rfl, t⟩ := tops1 ts
    cases t
    exact ⟨_, rfl, q F _ H (j.pushFz (.int _))⟩
  · cases h
def opInt : OpN
  | [.int i] => some (.fz (.int i))
  | [.bool b] => some (.fz (.int (if b then 1 else 0)))
  | _ => none
theorem int_ok : CallOk B X (.type "int") opInt := by
  refine ⟨_, call_int1, fun F pa s σ T H Q ds vs z j ts h q => ?_⟩
  unfold opInt at h
  split at h
  · cases h
    obtain ⟨v, rfl, t⟩ := tops1 ts
    cases t
    exact .inl ⟨_, rfl, q F _ H (j.pushFz (.int _))⟩
  · cases h
    obtain ⟨v, rfl, t⟩ := tops1 ts
    cases t
    exact .inr ⟨_, rfl, q F _ H (j.pushFz (.int _))⟩
  · cases h
def opLen : OpN
  | [.str x] => if x.length ≤ lim then some (.fz (.int x.length)) else none
  | [.list ds] => some (.fz (.int ds.length))
  | [.tuple ds] => some (.fz (.int ds.length))
  | [.dict ps] => some (.fz (.int ps.length))
  | _ => none
def rLenN (P : Program) (w : World) : List V → Hp → VK → Prop := fun xs H Q => ∃ (p : Addr) (ys : List (NestedKey × Addr × Value)) (n : Nat), xs = [.ref p] ∧ H p = some (dN P w p ys n) ∧ Q (.int ((ys.length : Nat) : Int)) H
theorem len_body_raw {prog : Program} {w : World} {A : Around} {E : Value → Shared → Prop} {s : Shared} {d : Addr} {es : Array DictEntry} {ep : Nat} {Q : Value → Shared → Prop} (hd : (d == sysModules) = false) (hm : s.heap.DictRaw d es ep) (hfit : (es.size : Int) < 2 ^ 63)
    (h : Q (.int es.size (s.toks + 1)) { s with toks := s.toks + 1 + 1 }) : wpAny (model prog w) A (Builtin.«len» ⟨[.ref d], []⟩) (fun fin s' => ∃ r, fin = .done (.ret r) ∧ Q r s') E s := by
  unfold Builtin.«len»
  refine wpAny_bind (m := oneArg "len" _) (wpAny_pure ?_)
  refine wpAny_bind (m := callSpecial? (.ref d) (Str.ofString "__len__")) (wpAny_callSpecial?_slot (name := Str.ofString "__len__") hm.typeIs F.slot_dict_len (call_len_raw hd hm ?_))
  show wpAny _ _ _ _ _ { s with toks := s.toks + 1 }
  refine wpAny_bind (wpAny_holding (wpAny_pure ?_))
  refine wpAny_bind (wpAny_letGo ?_)
  show wpAny _ _ (if ((es.size : Nat) : Int) < 0 then _ else _) _ _ _
  rw [if_neg (by omega)]
  show wpAny _ _ (if ((es.size : Nat) : Int) ≥ 2 ^ 63 then _ else _) _ _ _
  rw [if_neg (by omega)]
  exact wpAny_bind (wpAny_mkInt (wpAny_pure ⟨_, rfl, h⟩))
theorem call_lenN : CallR X (.builtin "len") (rLenN X.prog X.w) := by
  intro pins s σ H xs us Q I r h
  obtain ⟨p, ys, n, rfl, hp, q⟩ := h
  obtain ⟨u, rfl, rx⟩ := vals1 r
  obtain rfl : u = .ref p := rx
  obtain ⟨h1, h2, es, h3, h4, _⟩ := raw_of I.hok hp
  refine Calls.call_function_entry kind_len plain_len entry_len (args_len1 _) (len_body_raw h1 h3 (by rw [h4]; rw [sizeLine_eq] at h2; omega) ?_)
  rw [h4]
  exact ⟨.int ((ys.length : Nat) : Int), H, I.tok _, ⟨_, rfl⟩, q⟩
theorem len_ok (ft : Fit B X k) : CallOk B X (.builtin "len") opLen := by
  refine ⟨_, call_len.or (call_lenD.or call_lenN), fun F pa s σ T H Q ds vs z j ts h q => ?_⟩
  rw [ft.kk, ft.p, ft.w]
  unfold opLen at h
  split at h
  · split at h
    · rename_i hl
      cases h
      obtain ⟨v, rfl, t⟩ := tops1 ts
      cases t
      exact .inl ⟨_, _, rfl, ⟨lim_ok hl, rfl⟩, q F _ H (j.pushFz (.int _))⟩
    · cases h
  · cases h
    obtain ⟨v, rfl, t⟩ := tops1 ts
    cases t with
    | lst e r => exact .inl ⟨_, _, rfl, .inl ⟨_, .of e, r.length⟩, q F _ H (j.pushFz (.int _))⟩
  · cases h
    obtain ⟨v, rfl, t⟩ := tops1 ts
    cases t with
    | tup e r => exact .inl ⟨_, _, rfl, .inr ⟨_, .of (j.sub _ _ e), r.length⟩, q F _ H (j.pushFz (.int _))⟩
  · cases h
    obtain ⟨v, rfl, t⟩ := tops1 ts
    cases t with
    | dK e r => exact .inr (.inl ⟨_, _, rfl, e, by rw [← r.length]; exact q F _ H (j.pushFz (.int _))⟩)
    | dN e _ r => exact .inr (.inr ⟨_, _, _, rfl, e, by rw [← r.length]; exact q F _ H (j.pushFz (.int _))⟩)
  · cases h
/-! ### tuple, list of a sequence -/
def opTuple : OpN
  | [.list ds] => some (.fz (.tuple ds))
  | [.tuple ds] => some (.fz (.tuple ds))
  | _ => none
theorem tuple_ok (ft : Fit B X k) : CallOk B X (.type "tuple") opTuple := by
  refine ⟨_, call_tuple_of, fun F pa s σ T H Q ds vs z j ts h q => ?_⟩
  rw [ft.kk]
  unfold opTuple at h
  split at h
  · cases h
    obtain ⟨v, rfl, t⟩ := tops1 ts
    cases t with
    | lst e r => exact ⟨_, _, rfl, .inl ⟨.of e, fun l hl => q _ _ _ (j.newTup hl r)⟩⟩
  · cases h
    obtain ⟨v, rfl, t⟩ := tops1 ts
    cases t with
    | tup e r => exact ⟨_, _, rfl, .inr ⟨.of (j.sub _ _ e), q F _ H (j.pushFz (.tup e r))⟩⟩
  · cases h
def opList : OpN
  | [.list ds] => some (.fr (.list ds))
  | [.tuple ds] => some (.fr (.list ds))
  | _ => none
theorem list_ok (ft : Fit B X k) : CallOk B X (.type "list") opList := by
  refine ⟨_, call_list_of, fun F pa s σ T H Q ds vs z j ts h q => ?_⟩
  rw [ft.kk]
  unfold opList at h
  split at h
  · cases h
    obtain ⟨v, rfl, t⟩ := tops1 ts
    cases t with
    | lst e r => exact ⟨_, _, rfl, .inl (.of e), fun l hl => q _ _ _ (j.made hl (.lst r))⟩
  · cases h
    obtain ⟨v, rfl, t⟩ := tops1 ts
    cases t with
    | tup e r => exact ⟨_, _, rfl, .inr (.of (j.sub _ _ e)), fun l hl => q _ _ _ (j.made hl (.lst r))⟩
  · cases h
/-! ### sum, any, all -/
def intsOf : List PyData → Option (List Int)
  | [] => some []
  | .int i :: ds => (intsOf ds).map (i :: ·)
  | _ => none
theorem ints_rep {P : Program} {w : World} {K : PySem.W.Frag} : ∀ {ds : List PyData} {vs : List V} {ns : List Int}, intsOf ds = some ns → RepAll P w K F ds vs → vs = ns.map V.int
  | [], _, _, h, r => by cases h; cases r; rfl
  | d :: ds, _, ns, h, r => by
    cases r with
    | cons r1 r2 =>
      unfold intsOf at h
      split at h
      · rename_i e; cases e
      · rename_i i ds' e
        cases e
        obtain ⟨ms, h1, h2⟩ := Option.map_eq_some_iff.mp h
        subst h2
        cases r1
        rw [ints_rep h1 r2]
        rfl
      · cases h
def boolsOf : List PyData → Option (List Bool)
  | [] => some []
  | .bool i :: ds => (boolsOf ds).map (i :: ·)
  | _ => none
theorem bools_rep {P : Program} {w : World} {K : PySem.W.Frag} : ∀ {ds : List PyData} {vs : List V} {ns : List Bool}, boolsOf ds = some ns → RepAll P w K F ds vs → vs = ns.map V.bl
  | [], _, _, h, r => by cases h; cases r; rfl
  | d :: ds, _, ns, h, r => by
    cases r with
    | cons r1 r2 =>
      unfold boolsOf at h
      split at h
      · rename_i e; cases e
      · rename_i i ds' e
        cases e
        obtain ⟨ms, h1, h2⟩ := Option.map_eq_some_iff.mp h
        subst h2
        cases r1
        rw [bools_rep h1 r2]
        rfl
      · cases h
/-- sum of a tuple of ints -/
def rSumT (K : PySem.W.Frag) : List V → Hp → VK → Prop := fun vs H Q => ∃ (a : Addr) (ns : List Int), vs = [V.ref a] ∧ SqT K H a (ns.map V.int) ∧ Q (.int ns.sum) H
theorem cr_sumT (hc : X.calm = true) : CallR X (.builtin "sum") (rSumT X.K) := by
  intro pins s σ H vs us Q I r h
  obtain ⟨a, ns, rfl, hs, q⟩ := h
  obtain ⟨its, rv, hl, _⟩ := I.tuple hs
  rw [Vals.ref1 r]
  have hi := rv.ints
  obtain ⟨xs, e⟩ := hi.allInts.items
  have hn : numsOf (intItems xs).toList = ns := by rw [← e]; exact hi.numsOf
  rw [nums_intItems] at hn
  have hT : s.heap.IsTuple a (intItems xs) := by rw [← e]; exact hl
  have hlt : a < s.heap.objs.size := by obtain ⟨_, e, _⟩ := hT; exact Heap.lt_size e
  refine call_sum_walkG (wpAny_pyIter_tuple hT ?_)
  refine ⟨_, _, _, _, _, _, numAt xs, rfl, Walks.tuple (A := X.A.in1) (I.ok.hd hc) s.heap.objs.size a (Nat.ne_of_lt hlt) (intItems xs), ⟨⟨_, Heap.get?_push_size _ rfl, rfl, rfl⟩, hT.push _⟩, fun b hb => ?_, fun i v hv => ?_, fun h' tk t' hk => ?_⟩
  · show b < (s.heap.push _).objs.size
    rw [Heap.size_push]
    rcases List.mem_cons.mp hb with rfl | hb
    · exact Nat.lt_succ_self _
    · rcases List.mem_cons.mp hb with rfl | hb
      · exact Nat.lt_succ_of_lt hlt
      · cases hb
  · obtain ⟨t, rfl⟩ := intItems_at hv
    exact ⟨t, rfl⟩
  · refine ⟨.int _, H, I.kept fun b o eo => hk b o (fun hmem => ?_) (Heap.get?_push_of_some _ eo), ⟨t', rfl⟩, ?_⟩
    · rcases List.mem_cons.mp hmem with e1 | hmem
      · exact absurd (e1 ▸ Heap.lt_size eo) (Nat.lt_irrefl _)
      · cases hmem
    · rw [preSum_eq, List.take_of_length_le (by simp [intItems]), hn]
      exact q
def opSum : OpN
  | [.list ds] => (intsOf ds).map fun ns => .fz (.int ns.sum)
  | [.tuple ds] => (intsOf ds).map fun ns => .fz (.int ns.sum)
  | _ => none
theorem sum_ok (ft : Fit B X k) : CallOk B X (.builtin "sum") opSum := by
  refine ⟨_, (cr_sum ft.calm).or (cr_sumT ft.calm), fun F pa s σ T H Q ds vs z j ts h q => ?_⟩
  rw [ft.kk]
  unfold opSum at h
  split at h
  · obtain ⟨ns, h1, h2⟩ := Option.map_eq_some_iff.mp h
    subst h2
    obtain ⟨v, rfl, t⟩ := tops1 ts
    cases t with
    | lst e r =>
      have := ints_rep h1 r
      subst this
      exact .inl ⟨_, _, rfl, .of e, q F _ H (j.pushFz (.int _))⟩
  · obtain ⟨ns, h1, h2⟩ := Option.map_eq_some_iff.mp h
    subst h2
    obtain ⟨v, rfl, t⟩ := tops1 ts
    cases t with
    | tup e r =>
      have := ints_rep h1 r
      subst this
      exact .inr ⟨_, _, rfl, .of (j.sub _ _ e), q F _ H (j.pushFz (.int _))⟩
  · cases h
def opAny : OpN
  | [.list ds] => (boolsOf ds).map fun ns => .fz (.bool (ns.any id))
  | _ => none
def opAll : OpN
  | [.list ds] => (boolsOf ds).map fun ns => .fz (.bool (ns.all id))
  | _ => none
theorem any_ok (ft : Fit B X k) : CallOk B X (.builtin "any") opAny := by
  refine ⟨_, cr_any ft.calm, fun F pa s σ T H Q ds vs z j ts h q => ?_⟩
  rw [ft.kk]
  unfold opAny at h
  split at h
  · obtain ⟨ns, h1, h2⟩ := Option.map_eq_some_iff.mp h
    subst h2
    obtain ⟨v, rfl, t⟩ := tops1 ts
    cases t with
    | lst e r =>
      have := bools_rep h1 r
      subst this
      exact ⟨_, _, rfl, .of e, q F _ H (j.pushFz (.bl _))⟩
  · cases h
theorem all_ok (ft : Fit B X k) : CallOk B X (.builtin "all") opAll := by
  refine ⟨_, cr_all ft.calm, fun F pa s σ T H Q ds vs z j ts h q => ?_⟩
  rw [ft.kk]
  unfold opAll at h
  split at h
  · obtain ⟨ns, h1, h2⟩ := Option.map_eq_some_iff.mp h
    subst h2
    obtain ⟨v, rfl, t⟩ := tops1 ts
    cases t with
    | lst e r =>
      have := bools_rep h1 r
      subst this
      exact ⟨_, _, rfl, .of e, q F _ H (j.pushFz (.bl _))⟩
  · cases h
/-! ### repr -/
theorem rep_reads {pins : List (Addr × Obj)} {s0 : Shared} {d : PyData} {v : V} {u : Value} (I : Inv X pins σ H s0) (c : d.canLay0 = true) (r : RepD X.prog X.w X.K H d v) (ru : RelV v u) : ∃ as, Reads s0.heap u d as := Dp.reads I d v u (r.dp c) ru
mutual
/-- a bound of the text's length -/
def wt : PyData → Nat
  | .none => 4
  | .bool _ => 5
  | .int i => i.natAbs.log2 + 2
  | .str x => (reprText x).length
  | .list ds => wts ds + 2
  | .tuple ds => wts ds + 2
  | .dict _ => 0
def wts : List PyData → Nat
  | [] => 0
  | d :: ds => (wt d + 2) + wts ds
end
theorem listText_le : ∀ ts : List Str, (listText ts).length ≤ piled ts + 2
  | [] => by show (listText []).length ≤ 0 + 2; rw [show (listText []).length = 2 from rfl]; exact Nat.le_refl _
  | t :: r => by
    have h := textFrom_length_pos r 1 (("[" : Str) ++ (if (0 : Nat) > 0 then ", " else "" : String) ++ t) (Nat.succ_pos 0)
    have e : (listText (t :: r)).length = (textFrom 1 (("[" : Str) ++ (if (0 : Nat) > 0 then ", " else "" : String) ++ t) r).length + 1 := by
      show (textFrom 0 "[" (t :: r) ++ "]").length = _
      rw [strLen_append]
      rfl
    rw [e, h, strLen_append, strLen_append, piled_cons]
    have e1 : ((("[" : String) : Str)).length = 1 := rfl
    have e2 : (((if (0 : Nat) > 0 then ", " else "" : String) : Str)).length = 0 := rfl
    rw [e1, e2]
    omega
theorem tupleText_le (ts : List Str) : (tupleText ts).length ≤ piled ts + 2 := by
  unfold tupleText
  rw [strLen_append, strLen_append]
  have e1 : ((("(" : String) : Str)).length = 1 := rfl
  have e3 : (((if ts.length == 1 then ",)" else ")" : String) : Str)).length ≤ 2 := by split <;> decide
  rw [e1]
  by_cases h : ts = []
  · subst h
    show 1 + (Str.join ", " []).length + _ ≤ 0 + 2
    have e4 : (((if ([] : List Str).length == 1 then ",)" else ")" : String) : Str)).length = 1 := rfl
    rw [e4]
    exact Nat.le_refl _
  · have := join_length_add ts h
    omega
mutual
theorem shown_le : ∀ d : PyData, d.canLay0 = true → d.shown.length ≤ wt d
  | .none, _ => by decide
  | .bool true, _ => by decide
  | .bool false, _ => by decide
  | .int i, _ => by
    show (Str.ofString (toString i)).length ≤ i.natAbs.log2 + 2
    rw [ofString_length]
    exact int_text_length_le (k := i.natAbs.log2 + 1) (Nat.succ_pos _) (Nat.lt_succ_self _)
  | .str x, _ => Nat.le_refl _
  | .list ds, h => by
    show (listText (PyData.shownAll ds)).length ≤ wts ds + 2
    exact Nat.le_trans (listText_le _) (Nat.add_le_add_right (shownAll_le ds (by simpa [PyData.canLay0] using h)) 2)
  | .tuple ds, h => by
    show (tupleText (PyData.shownAll ds)).length ≤ wts ds + 2
    exact Nat.le_trans (tupleText_le _) (Nat.add_le_add_right (shownAll_le ds (by simpa [PyData.canLay0] using h)) 2)
  | .dict _, h => by simp [PyData.canLay0] at h
theorem shownAll_le : ∀ ds : List PyData, PyData.canLayAll0 ds = true → piled (PyData.shownAll ds) ≤ wts ds
  | [], _ => Nat.le_refl _
  | d :: ds, h => by
    simp only [PyData.canLayAll0, Bool.and_eq_true] at h
    show piled (d.shown :: PyData.shownAll ds) ≤ (wt d + 2) + wts ds
    rw [piled_cons]
    have := shown_le d h.1
    have := shownAll_le ds h.2
    omega
end
/-- what repr shows -/
def canShow (d : PyData) : Bool := d.canLay0 && d.showable && decide (wt d ≤ lim) && decide (d.depth ≤ 60)
def isSeq : PyData → Bool
  | .list _ => true
  | .tuple _ => true
  | _ => false
def opRepr : OpN
  | [d] => if isSeq d && canShow d then some (.fz (.str d.shown)) else none
  | _ => none
def rRepr (P : Program) (w : World) (K : PySem.W.Frag) : List V → Hp → VK → Prop := fun vs H Q => ∃ a d, vs = [V.ref a] ∧ RepD P w K H d (.ref a) ∧ canShow d = true ∧ Q (.str d.shown) H
theorem cr_repr (hg : X.A.guards = some []) (hu : X.A.units + 64 < cLine) : CallR X (.builtin "repr") (rRepr X.prog X.w X.K) := by
  intro pins s σ H vs us Q I r h
  obtain ⟨a, d, rfl, rd, hc, q⟩ := h
  rw [Vals.ref1 r]
  simp only [canShow, Bool.and_eq_true, decide_eq_true_eq] at hc
  obtain ⟨⟨⟨h1, h2⟩, h3⟩, h4⟩ := hc
  obtain ⟨as, ra⟩ := rep_reads I h1 rd (show RelV (.ref a) (.ref a) from rfl)
  refine PySem.repr_of_reads' ra h2 (fun hd => by rw [PyData.hasDict_of_canLay d h1] at hd; cases hd) hg (by omega) (fun _ _ e => e) (fun h' u tk hk => ⟨.str d.shown, H, I.kept hk, ⟨u, rfl⟩, q⟩) (Nat.le_trans (shown_le d h1) (lim_ok h3))
theorem repr_ok (ft : Fit B X k) : CallOk B X (.builtin "repr") opRepr := by
  refine ⟨_, cr_repr ft.room.g ft.room.r.units, fun F pa s σ T H Q ds vs z j ts h q => ?_⟩
  rw [ft.p, ft.w, ft.kk]
  unfold opRepr at h
  split at h
  · rename_i d
    split at h
    · rename_i hs
      cases h
      rw [Bool.and_eq_true] at hs
      obtain ⟨v, rfl, t⟩ := tops1 ts
      have r := t.rep j.sub
      cases t with
      | lst e _ => exact ⟨_, _, rfl, r, hs.2, q F _ H (j.pushFz (.str _))⟩
      | tup e _ => exact ⟨_, _, rfl, r, hs.2, q F _ H (j.pushFz (.str _))⟩
      | non => cases hs.1
      | bl _ => cases hs.1
      | int _ => cases hs.1
      | str _ => cases hs.1
      | dK _ _ => cases hs.1
      | dN _ _ _ => cases hs.1
    · cases h
  · cases h
/-! ### repr(a) != repr(b), equal -/
theorem EV.imp {e : Expr} {f g : DE} (h : EV B X e g) (i : ∀ s r, f s = some r → g s = some r) : EV B X e f :=
  .of h.pe fun F pa s σ T H Q x s' j hf q => ⟨F, pa, s, T, x, s', j, i s _ hf, q⟩
theorem ET.imp {e : Expr} {f g : DT} (h : ET B X e g) (i : ∀ s r, f s = some r → g s = some r) : ET B X e f :=
  .of h.pt fun F pa s σ T H Q x s' j hf q => ⟨F, pa, s, T, x, s', j, i s _ hf, q⟩
def opNeS : Op2
  | .str x, .str y => some (.fz (.bool (!decide (x = y))))
  | _, _ => none
theorem opNeS_ok : OpOk B X (compareOp .NotEq) opNeS := by
  refine ⟨_, op_ne, fun F pa s σ T H Q v w dx dy z j hx hy h q => ?_⟩
  unfold opNeS at h
  split at h
  · rename_i x y
    cases h; cases hx; cases hy
    refine ⟨rfl, ?_⟩
    have e : decide (V.str x = V.str y) = decide (x = y) := by
      by_cases h : x = y
      · simp [h]
      · simp [h]
    rw [e]
    exact q F _ H (j.pushFz (.bl _))
  · cases h
def dNeRepr (fa fb : DE) : DT := fun s => match dSet fa s with
  | some (x, s1) => match cont s1 x, dSet fb s1 with
    | some da, some (y, s2) => match cont s2 y with
      | some db => if isSeq da && canShow da && deq da db then some (false, s2) else none
      | none => none
    | _, _ => none
  | none => none
theorem et_reprNe {a b : Expr} {fa fb : DE} {pos : Pos} (h : ET B X (.Compare a [.NotEq] [b] pos) (fun s => asB (dOp opNeS (dCallB opRepr (dCons fa dNil)) (dCallB opRepr (dCons fb dNil)) s))) : ET B X (.Compare a [.NotEq] [b] pos) (dNeRepr fa fb) := by
  refine h.imp fun s r hr => ?_
  unfold dNeRepr at hr
  split at hr
  · rename_i x s1 h1
    split at hr
    · rename_i da y s2 h2 h3
      split at hr
      · rename_i db h4
        split at hr
        · rename_i hc
          cases hr
          simp only [Bool.and_eq_true] at hc
          obtain ⟨⟨c1, c2⟩, c3⟩ := hc
          have e := eq_of_deq _ _ c3
          subst e
          have cc : (isSeq da && canShow da) = true := by rw [c1, c2]; rfl
          have ea : dCallB opRepr (dCons fa dNil) s = some (.fz (.str da.shown), s1) := by
            unfold dCallB dCons dNil
            rw [h1]
            simp only [conts, h2, opRepr, cc, if_true, Option.map_some]
          have eb : dCallB opRepr (dCons fb dNil) s1 = some (.fz (.str da.shown), s2) := by
            unfold dCallB dCons dNil
            rw [h3]
            simp only [conts, h4, opRepr, cc, if_true, Option.map_some]
          have en : opNeS (.str da.shown) (.str da.shown) = some (.fz (.bool false)) := by
            unfold opNeS
            simp
          show asB (dOp opNeS (dCallB opRepr (dCons fa dNil)) (dCallB opRepr (dCons fb dNil)) s) = _
          unfold dOp dSet
          rw [ea]
          simp only [settle]
          rw [eb]
          simp only [settle, cont, en, Option.map_some, asB]
        · cases hr
      · cases hr
    · cases hr
  · cases hr
end
end Rg
/-! Rg, part U: sorted, min, max, extend. -/
namespace Rg
open PySem L2 PySem.W

section
variable {α : Type} {le : α → α → Bool}
def ins (le : α → α → Bool) (x : α) : List α → List α
  | [] => [x]
  | y :: ys => if le x y then x :: y :: ys else y :: ins le x ys
/-- sorting that computes -/
def isort (le : α → α → Bool) : List α → List α
  | [] => []
  | x :: xs => ins le x (isort le xs)
theorem ins_mem {x y : α} : ∀ {l : List α}, y ∈ ins le x l ↔ y = x ∨ y ∈ l
  | [] => by simp [ins]
  | z :: zs => by
    unfold ins
    split
    · simp
    · rw [List.mem_cons, ins_mem, List.mem_cons]
      constructor
      · rintro (h | h | h)
        · exact .inr (.inl h)
        · exact .inl h
        · exact .inr (.inr h)
      · rintro (h | h | h)
        · exact .inr (.inl h)
        · exact .inl h
        · exact .inr (.inr h)
theorem ins_sorted (h : TotalLe le) (x : α) : ∀ {l : List α}, l.Pairwise (fun a b => le a b = true) → (ins le x l).Pairwise (fun a b => le a b = true)
  | [], _ => by simp [ins]
  | y :: ys, hs => by
    rw [List.pairwise_cons] at hs
    unfold ins
    split
    · rename_i hxy
      exact List.pairwise_cons.mpr ⟨fun z hz => by
        rcases List.mem_cons.mp hz with rfl | hz
        · exact hxy
        · exact h.trans _ _ _ hxy (hs.1 z hz), List.pairwise_cons.mpr hs⟩
    · rename_i hxy
      have hyx : le y x = true := (h.total y x).elim id fun q => absurd q hxy
      exact List.pairwise_cons.mpr ⟨fun z hz => by
        rcases ins_mem.mp hz with rfl | hz
        · exact hyx
        · exact hs.1 z hz, ins_sorted h x hs.2⟩
theorem isort_sorted (h : TotalLe le) : ∀ l : List α, (isort le l).Pairwise (fun a b => le a b = true)
  | [] => .nil
  | x :: xs => ins_sorted h x (isort_sorted h xs)
theorem ins_filter (h : TotalLe le) (c x : α) : ∀ l : List α, l.Pairwise (fun a b => le a b = true) → (ins le x l).filter (sameRank le c) = (x :: l).filter (sameRank le c)
  | [], _ => rfl
  | y :: ys, hs => by
    unfold ins
    split
    · rfl
    · rename_i hxy
      rw [List.pairwise_cons] at hs
      have ih := ins_filter h c x ys hs.2
      rw [List.filter_cons, ih]
      by_cases hx : sameRank le c x = true
      · by_cases hy : sameRank le c y = true
        · exfalso
          unfold sameRank at hx hy
          rw [Bool.and_eq_true] at hx hy
          exact hxy (h.trans _ _ _ hx.2 hy.1)
        · rw [if_neg hy, List.filter_cons_of_pos hx, List.filter_cons_of_pos hx, List.filter_cons_of_neg hy]
      · rw [List.filter_cons_of_neg hx, List.filter_cons_of_neg hx, List.filter_cons]
theorem isort_filter (h : TotalLe le) (c : α) : ∀ l : List α, (isort le l).filter (sameRank le c) = l.filter (sameRank le c)
  | [] => rfl
  | x :: xs => by
    show (ins le x (isort le xs)).filter (sameRank le c) = _
    rw [ins_filter h c x _ (isort_sorted h xs), List.filter_cons, List.filter_cons, isort_filter h c xs]
theorem isort_eq (h : TotalLe le) (l : List α) : isort le l = l.mergeSort le := sort_unique h (isort_sorted h l) fun c => isort_filter h c l
end

section
variable {B : Bs} {X : Cx} {k : Nat} {F : Hp} {pa : Option (Addr × Addr)} {s : S} {σ : L2.St} {T : List (Vl × V)} {H : Hp}
def dLe : PyData → PyData → Bool := dataLe false (fun d : PyData => d)
theorem dLe_total : TotalLe dLe := by
  unfold dLe dataLe
  exact sortLe_total _ _ _
def alikes : List PyData → Bool
  | ds => ds.all fun d => ds.all fun e => alike d e
def sortable (ds : List PyData) : Bool := (ds.all fun d => match d with
  | .tuple (_ :: _) => true
  | _ => false) || (ds.all fun d => match d with
  | .tuple _ => false
  | .none => false
  | _ => true)
theorem sortable_of {ds : List PyData} (h : sortable ds = true) : Sortable ds := by
  unfold sortable at h
  rw [Bool.or_eq_true, List.all_eq_true, List.all_eq_true] at h
  rcases h with h | h
  · refine .inl fun d hd => ?_
    have := h d hd
    split at this
    · exact ⟨_, _, rfl⟩
    · cases this
  · refine .inr fun d hd => ?_
    have := h d hd
    split at this
    · cases this
    · cases this
    · rename_i h1 h2
      exact ⟨fun e => h2 e, fun xs e => h1 xs e⟩
theorem alikes_of {ds : List PyData} (h : alikes ds = true) : AllAlike ds := fun d hd d' hd' => by
  unfold alikes at h
  exact List.all_eq_true.mp (List.all_eq_true.mp h d hd) d' hd'
def canSort (ds : List PyData) : Bool := alikes ds && sortable ds && decide (ds.length ≤ lim) && ds.all fun d => d.canLay0 && decide (d.depth ≤ 50)
def opSorted : OpN
  | [.list ds] => if canSort ds then some (.fr (.list (isort dLe ds))) else none
  | _ => none
/-- sorted(xs) of a list of alike data -/
def rSortD (P : Program) (w : World) (K : PySem.W.Frag) : List V → Hp → VK → Prop := fun vs H Q => ∃ (a : Addr) (F : Hp) (xs : List V) (ds : List PyData), vs = [V.ref a] ∧ H a = some (.lst xs) ∧ Same F H ∧ RepAll P w K F ds xs ∧ canSort ds = true ∧
  ∀ p ys, H p = none → RepAll P w K F (isort dLe ds) ys → Q (.ref p) (upd H p (.lst ys))
theorem each_of {P : Program} {w : World} {K : PySem.W.Frag} {R : Value → PyData → Prop} : ∀ {ds : List PyData} {vs : List V} {us : List Value}, RepAll P w K F ds vs → Vals vs us → (∀ d v u, RepD P w K F d v → RelV v u → R u d) → EachIs R us ds
  | _, _, _, .nil, .nil, _ => .nil
  | _, _, _, .cons h t, .cons r rr, k => .cons (k _ _ _ h r) (each_of t rr k)
theorem of_each {P : Program} {w : World} {K : PySem.W.Frag} : ∀ {ds : List PyData} {us : List Value}, EachIs (fun u d => ∃ v, RelV v u ∧ RepD P w K F d v) us ds → ∃ vs, Vals vs us ∧ RepAll P w K F ds vs
  | _, _, .nil => ⟨[], .nil, .nil⟩
  | _, _, .cons ⟨v, h1, h2⟩ t => by
    obtain ⟨vs, h3, h4⟩ := of_each t
    exact ⟨v :: vs, .cons h1 h3, .cons h2 h4⟩
theorem cr_sortD (hu : X.A.units + 64 < cLine) : CallR X (.builtin "sorted") (rSortD X.prog X.w X.K) := by
  intro pins s σ H vs us Q I r h
  obtain ⟨a, F, xs, ds, rfl, hs, sf, rd, hc, q⟩ := h
  rw [Vals.ref1 r]
  simp only [canSort, Bool.and_eq_true, decide_eq_true_eq] at hc
  obtain ⟨⟨⟨h1, h2⟩, h3⟩, h4⟩ := hc
  obtain ⟨its, rv, hl, hz⟩ := I.list (SqL.of hs)
  have hd : ∀ d ∈ ds, d.canLay0 = true ∧ d.depth ≤ 50 := fun d hd => by simpa using List.all_eq_true.mp h4 d hd
  have e1 : EachIs (fun u d => ∃ v, RelV v u ∧ RepD X.prog X.w X.K F d v) its ds := each_of rd rv fun d v u a b => ⟨v, b, a⟩
  have e2 : EachIs (fun u d => ∃ as, Reads s.heap u d as) its ds := (each_mem e1).mono fun u d ⟨⟨v, a, b⟩, hm⟩ => rep_reads I (hd d hm).1 (b.mono sf) a
  refine sorted_data (enc := fun d : PyData => d) (R := fun u d => ∃ v, RelV v u ∧ RepD X.prog X.w X.K F d v) hl.isList e1 e2 (by rw [List.map_id']; exact alikes_of h1) (by rw [List.map_id']; exact sortable_of h2) (lim_ok h3) (fun b hb => by have := (hd b hb).2; omega) fun out ho eo => ?_
  have em : ds.mergeSort (dataLe false fun d : PyData => d) = isort dLe ds := (isort_eq dLe_total ds).symm
  rw [em] at eo
  obtain ⟨ys, v1, v2⟩ := of_each eo
  obtain ⟨ep, he'⟩ := PyProof.Rows.sortedAll_at s.heap its out.toArray
  have hlen : ys.length ≤ sizeLine := by rw [v1.length, ho]; exact lim_ok h3
  exact ⟨.ref _, upd H (s.heap.objs.size + 1) (.lst ys), I.laid (t' := s.toks) (fun _ _ => PyProof.Rows.sortedAll_old) (Nat.le_succ _) ⟨hlen, out, ep, v1, by simpa using he'⟩, rfl, q _ ys (I.hok.fresh (Nat.le_succ _)) v2⟩
theorem sorted_ok (ft : Fit B X k) : CallOk B X (.builtin "sorted") opSorted := by
  refine ⟨_, cr_sortD ft.room.r.units, fun F pa s σ T H Q ds vs z j ts h q => ?_⟩
  rw [ft.p, ft.w, ft.kk]
  unfold opSorted at h
  split at h
  · split at h
    · rename_i hc
      cases h
      obtain ⟨v, rfl, t⟩ := tops1 ts
      cases t with
      | lst e r => exact ⟨_, F, _, _, rfl, e, j.sub, r, hc, fun p ys hp ry => q _ _ _ (j.made hp (.lst ry))⟩
    · cases h
  · cases h
/-! ### min, max of two ints -/
def opMin2 : OpN
  | [.int i, .int j] => some (.fz (.int (if j < i then j else i)))
  | _ => none
def opMax2 : OpN
  | [.int i, .int j] => some (.fz (.int (if j > i then j else i)))
  | _ => none
theorem min2_ok (ft : Fit B X k) : CallOk B X (.builtin "min") opMin2 := by
  refine ⟨_, call_min2 ft.calm, fun F pa s σ T H Q ds vs z j ts h q => ?_⟩
  unfold opMin2 at h
  split at h
  · cases h
    obtain ⟨v, u, rfl, t1, t2⟩ := tops2 ts
    cases t1
    cases t2
    exact ⟨_, _, rfl, q F _ H (j.pushFz (.int _))⟩
  · cases h
theorem max2_ok (ft : Fit B X k) : CallOk B X (.builtin "max") opMax2 := by
  refine ⟨_, call_max2 ft.calm, fun F pa s σ T H Q ds vs z j ts h q => ?_⟩
  unfold opMax2 at h
  split at h
  · cases h
    obtain ⟨v, u, rfl, t1, t2⟩ := tops2 ts
    cases t1
    cases t2
    exact ⟨_, _, rfl, q F _ H (j.pushFz (.int _))⟩
  · cases h
/-! ### xs.extend(ys) -/
theorem mm_extendT (l : Addr) (items : Array Value) (n : Nat) (b : Addr) (items2 : Array Value) (hs0 : ¬(!items.isEmpty && Builtin.List.listTooLong (items.size + items2.size)) = true) (hs1 : items.size ≤ sizeLine) (hs2 : items.size + items2.size ≤ sizeLine + 1) :
    Meets (Builtin.«list.extend» ⟨[.ref l, .ref b], []⟩) (fun _ R s => s.heap.get? l = some { cls := .type "list", dict := none, data := .seq items n, slots := #[] } ∧ s.heap.IsTuple b items2 ∧ R (.ok (.ret Value.none)) { s with heap := s.heap.update l (Obj.mapSeq fun x => x ++ items2), toks := s.toks }) :=
  .of_wp fun prog w A R s h => by
    obtain ⟨hp, g, d, tk, os⟩ := s; obtain ⟨hl, hB, h⟩ := h
    obtain ⟨⟨c, dc, dt, sl⟩, hb, hc, n2, hd⟩ := hB
    replace hc : c = .type "tuple" := hc
    replace hd : dt = .seq items2 n2 := hd
    subst hc hd
    have f1 := AutoSeq1.idx_int; have f2 := AutoSeq1.sub_tuple_tuple; have f3 := AutoSeq1.sub_list_list; have f4 := AutoSeq1.sub_tuple_list; have f5 := AutoSeq1.sub_list_tuple
    have hz' : (items ++ items2).size ≤ sizeLine + 1 := by rw [Array.size_append]; exact hs2
    wp_walk using (wpAny_updateSeq hl rfl (hz := hs1) (_hz' := hz')), AutoSeq1.wpAny_loadPart' hl, AutoSeq1.wpAny_loadPart' hb; exact ⟨_, rfl, h⟩
def opExtend : OpM
  | .list ds, [.list es] => if ds.length + es.length ≤ lim then some (.none, .list (ds ++ es)) else none
  | .list ds, [.tuple es] => if ds.length + es.length ≤ lim then some (.none, .list (ds ++ es)) else none
  | _, _ => none
def rExtendT (K : PySem.W.Frag) : V → List V → Hp → VK → Prop := fun x vs H Q => ∃ l b xs zs, x = .ref l ∧ vs = [.ref b] ∧ H l = some (.lst xs) ∧ SqT K H b zs ∧ xs.length + zs.length ≤ sizeLine ∧ Q .non (upd H l (.lst (xs ++ zs)))
theorem mt_extendT : MtR X "list.extend" (rExtendT X.K) := by
  intro pins s σ H x vs v us Q I rx rv h
  obtain ⟨l, b, xs, zs, rfl, rfl, hH, hB, hz, q⟩ := h
  cases rx
  obtain ⟨u, rfl, ru⟩ := rv.one
  cases ru
  obtain ⟨z, its, n, r, hl, e⟩ := I.lstM hH
  obtain ⟨its2, r2, p2, z2⟩ := I.tuple hB
  have l1 := r.length
  have l2 := r2.length
  have hsz : its.toArray.size + its2.toArray.size ≤ sizeLine := by rw [List.size_toArray, List.size_toArray]; omega
  have hlong : ¬ (!its.toArray.isEmpty && Builtin.List.listTooLong (its.toArray.size + its2.toArray.size)) = true := by
    rw [notLongL hsz, Bool.and_false]
    exact Bool.false_ne_true
  refine call_meets F.slot_list_extend ⟨_, e, rfl⟩ F.entry_list_extend (F.args_list_extend_2 _ _)
    (mm_extendT l its.toArray n b its2.toArray hlong (by rw [List.size_toArray]; omega) (by omega)) ⟨e, show s.heap.IsTuple b its2.toArray from p2, ?_⟩
  refine ⟨.non, _, I.lset (its' := its ++ its2) hH e (by simp) (r.append r2) ?_, rfl, q⟩
  rw [List.length_append]
  omega
theorem extend_ok (ft : Fit B X k) : MutOk B X "list.extend" opExtend := by
  refine ⟨_, MtR.or mt_extend mt_extendT, fun F H Q d a o ds vs z d' sf ho c r h q => ?_⟩
  rw [ft.kk]
  unfold opExtend at h
  split at h
  · split at h
    · rename_i hl
      cases h
      cases c with
      | lst rc =>
        cases r with
        | cons r1 r2 =>
          cases r2
          cases r1 with
          | lst e1 rr => exact .inl ⟨_, _, _, _, rfl, rfl, ho, sf _ _ e1, by rw [← rc.length, ← rr.length]; exact lim_ok hl, q _ _ (.lst (rc.append rr)) .non⟩
    · cases h
  · split at h
    · rename_i hl
      cases h
      cases c with
      | lst rc =>
        cases r with
        | cons r1 r2 =>
          cases r2
          cases r1 with
          | tup e1 rr => exact .inr ⟨_, _, _, _, rfl, rfl, ho, .of (sf _ _ e1), by rw [← rc.length, ← rr.length]; exact lim_ok hl, q _ _ (.lst (rc.append rr)) .non⟩
    · cases h
  · cases h
end
end Rg
/-! Rg, part V: dict(pairs). -/
namespace Rg
open PySem L2 PySem.W

def pairsD : List PyData → Option (List (PyData × PyData))
  | [] => some []
  | .tuple [a, b] :: ds => if kOk a && isTup a then (pairsD ds).map ((a, b) :: ·) else none
  | _ => none
def dputs (ps : List (PyData × PyData)) : List (PyData × PyData) → List (PyData × PyData)
  | [] => ps
  | (a, b) :: r => dputs (dput ps a b) r
section
variable {P : Program} {w : World} {K : PySem.W.Frag} {F H : Hp} {h : Heap}
/-- what the walk needs of the pairs -/
structure PairsOk (P : Program) (w : World) (K : PySem.W.Frag) (F : Hp) (h : Heap) (us : List Value) (ps : List (PyData × PyData)) (qs : List (NestedKey × Addr × Value)) (kv : List (Value × Value)) (ts : List Addr) : Prop where
  us : us = ts.map Value.ref
  len : ts.length = qs.length
  kvq : kv = qs.map fun q => (Value.ref q.2.1, q.2.2)
  rep : RepN P w K F ps qs
  at' : ∀ (i : Nat) t q, ts[i]? = some t → qs[i]? = some q → h.IsTuple t #[.ref q.2.1, q.2.2]
theorem pairs_ok {X : Cx} {pins : List (Addr × Obj)} {σ : L2.St} {s : Shared} (I : Inv X pins σ H s) (sf : Same F H) : ∀ {ds : List PyData} {vs : List V} {us : List Value} {ps : List (PyData × PyData)}, pairsD ds = some ps → RepAll X.prog X.w X.K F ds vs → Vals vs us →
    ∃ qs kv ts, PairsOk X.prog X.w X.K F s.heap us ps qs kv ts
  | [], _, _, _, e, .nil, .nil => by
    cases e
    exact ⟨[], [], [], ⟨rfl, rfl, rfl, .nil, fun i t q h => by simp at h⟩⟩
  | d :: ds, _, _, ps, e, .cons (v := v) r1 r2, .cons (b := u) ru rus => by
    unfold pairsD at e
    split at e
    · rename_i z; cases z
    · rename_i a b ds' z
      cases z
      split at e
      · rename_i hc
        obtain ⟨ps', h1, h2⟩ := Option.map_eq_some_iff.mp e
        subst h2
        rw [Bool.and_eq_true] at hc
        obtain ⟨qs, kv, ts, ok⟩ := pairs_ok I sf h1 r2 rus
        cases r1 with
        | tup e1 rr =>
          cases ru
          cases rr with
          | cons ra rr2 => cases rr2 with
            | cons rb rr3 =>
              cases rr3
              obtain ⟨ba, hb⟩ := rep_tup hc.2 ra
              subst hb
              obtain ⟨y, ey, oky, hz⟩ := (ra.mono sf).nkey I.hok hc.1
              obtain ⟨its, rv, p, _⟩ := I.tuple (SqT.of (sf _ _ e1))
              cases rv with
              | cons g1 g2 => cases g2 with
                | cons g3 g4 =>
                  cases g4
                  cases g1
                  refine ⟨(y, ba, _) :: qs, (.ref ba, _) :: kv, _ :: ts, ⟨by rw [ok.us]; rfl, by simp [ok.len], by rw [ok.kvq]; rfl, .cons oky ey (by rw [keyN_depth ey]; exact of_decide_eq_true ((Bool.and_eq_true _ _).mp hc.1).2) ra g3 rb ok.rep, fun i t q ht hq => ?_⟩⟩
                  cases i with
                  | zero =>
                    simp at ht hq
                    subst ht hq
                    exact p
                  | succ i => exact ok.at' i t q (by simpa using ht) (by simpa using hq)
      · cases e
    · cases e
theorem RepN.puts : ∀ {ps0 ps : List (PyData × PyData)} {xs qs : List (NestedKey × Addr × Value)}, RepN P w K F ps0 xs → RepN P w K F ps qs → RepN P w K F (dputs ps0 ps) (storedAllH xs qs)
  | _, _, _, _, h, .nil => h
  | _, _, xs, _, h, .cons (y := y) (a := a) (u := u) (xs := qs) a1 a2 a3 a4 a5 a6 t => by
    have g := RepN.puts (h.put a1 a2 a3 a4 a5 a6) t
    show RepN P w K F _ (storedAllH (storedH xs y a u) qs)
    exact g
theorem RepN.ok {X : Cx} {h : Heap} (hok : HOk X.prog X.w H h) (sf : Same F H) : ∀ {ps : List (PyData × PyData)} {qs : List (NestedKey × Addr × Value)}, RepN X.prog X.w X.K F ps qs → ∀ x ∈ qs, (nestedKind X.prog X.w).is h x.1 x.2.1
  | _, _, .nil, x, hx => by cases hx
  | _, _, .cons a1 a2 a3 a4 a5 a6 t, x, hx => by
    rcases List.mem_cons.mp hx with rfl | hx
    · have r := a4.mono sf
      exact ⟨r.nested hok rfl a2, a3⟩
    · exact RepN.ok hok sf t x hx
theorem storedAll_ne : ∀ {qs xs : List (NestedKey × Addr × Value)}, (xs ≠ [] ∨ qs ≠ []) → storedAllH xs qs ≠ []
  | [], xs, h => h.elim id fun q => absurd rfl q
  | q :: qs, xs, _ => storedAll_ne (qs := qs) (.inl storedH_ne)
theorem storedAll_len : ∀ {qs xs : List (NestedKey × Addr × Value)}, (storedAllH xs qs).length ≤ xs.length + qs.length
  | [], xs => Nat.le_refl _
  | q :: qs, xs => by
    have h1 := storedAll_len (qs := qs) (xs := storedH xs q.1 q.2.1 q.2.2)
    have h2 := storedH_le xs q.1 q.2.1 q.2.2
    show (storedAllH (storedH xs q.1 q.2.1 q.2.2) qs).length ≤ _
    rw [List.length_cons]
    omega
end
section
variable {B : Bs} {X : Cx} {k : Nat} {F : Hp} {pa : Option (Addr × Addr)} {s : S} {σ : L2.St} {T : List (Vl × V)} {H : Hp}
def rDictN (P : Program) (w : World) (K : PySem.W.Frag) : List V → Hp → VK → Prop := fun vs H Q => ∃ (a : Addr) (F : Hp) (xs : List V) (ds : List PyData) (ps : List (PyData × PyData)), vs = [V.ref a] ∧ H a = some (.lst xs) ∧ Same F H ∧ RepAll P w K F ds xs ∧ pairsD ds = some ps ∧ ps ≠ [] ∧ ds.length ≤ lim ∧
  ∀ p qs n, H p = none → qs ≠ [] → RepN P w K F (dputs [] ps) qs → Q (.ref p) (upd H p (dN P w p qs n))
theorem pairsD_len : ∀ {ds : List PyData} {ps : List (PyData × PyData)}, pairsD ds = some ps → ps.length = ds.length
  | [], _, h => by cases h; rfl
  | d :: ds, ps, h => by
    unfold pairsD at h
    split at h
    · rename_i z; cases z
    · rename_i a b ds' z
      cases z
      split at h
      · obtain ⟨ps', h1, h2⟩ := Option.map_eq_some_iff.mp h
        subst h2
        rw [List.length_cons, List.length_cons, pairsD_len h1]
      · cases h
    · cases h
theorem cr_dictN (hc : X.calm = true) (hu : X.A.units + 64 < cLine) : CallR X (.type "dict") (rDictN X.prog X.w X.K) := by
  intro pins s σ H vs us Q I r h
  obtain ⟨a, F, xs, ds, ps, rfl, hs, sf, rd, hp, hne, hlen, q⟩ := h
  rw [Vals.ref1 r]
  obtain ⟨z, its, n, rv, hl, e⟩ := I.lstM hs
  obtain ⟨qs, kv, ts, ok⟩ := pairs_ok I sf hp rd rv
  have l1 : its.length = ts.length := by rw [ok.us, List.length_map]
  have l2 : kv.length = qs.length := by rw [ok.kvq, List.length_map]
  have l3 : ps.length = qs.length := ok.rep.length
  have l4 : kv.length = ds.length := by rw [l2, ← l3, pairsD_len hp]
  have pit : PairItems s.heap its.toArray (fun j => ts.getD j 0) kv := by
    refine ⟨by rw [List.size_toArray, l1, ok.len, l2], fun j kk v hj => ?_⟩
    rw [ok.kvq, List.getElem?_map] at hj
    obtain ⟨y, hy, ey⟩ := Option.map_eq_some_iff.mp hj
    cases ey
    have hjl : j < ts.length := by rw [ok.len]; exact (List.getElem?_eq_some_iff.mp hy).1
    have ht : ts[j]? = some ts[j] := List.getElem?_eq_getElem hjl
    have eg : ts.getD j 0 = ts[j] := by rw [List.getD_eq_getElem?_getD, ht]; rfl
    refine ⟨?_, .inl ?_⟩
    · rw [List.getElem?_toArray, ok.us, List.getElem?_map, ht]; show some (Value.ref ts[j]) = some (Value.ref (ts.getD j 0)); rw [eg]
    · show s.heap.IsTuple (ts.getD j 0) _
      rw [eg]
      exact ok.at' j _ y ht hy
  have hk1 : ∀ h', (∀ b o, s.heap.get? b = some o → h'.get? b = some o) → ∀ x ∈ qs, (nestedKind X.prog X.w).is h' x.1 x.2.1 := fun h' hk x hx => RepN.ok (I.hok.kept hk) sf ok.rep x hx
  refine call_dict_pairsH (knd := nestedKind X.prog X.w) (ps := qs) (PairArg.list a its.toArray (fun j => ts.getD j 0) kv) (I.ok.hd hc) (by show X.A.units + 1 + 1 + 8 < cLine; omega) ⟨⟨_, n, e, rfl, rfl, rfl⟩, pit⟩ ⟨l2.symm, fun i key v hr => ?_⟩
    (fun h' hk x hx => hk1 h' (fun b o ho => hk b o (Nat.ne_of_lt (Heap.lt_size ho)) (by simp) ho) x hx) (by rw [l4]; exact lim_ok hlen) fun h' tk hm' hk => ?_
  · have hr' : kv[i]? = some (key, v) := hr
    rw [ok.kvq, List.getElem?_map] at hr'
    obtain ⟨y, hy, ey⟩ := Option.map_eq_some_iff.mp hr'
    cases ey
    exact ⟨_, _, hy, rfl⟩
  · have hk' : ∀ b o, s.heap.get? b = some o → h'.get? b = some o := fun b o ho => hk b o (by simp) ho
    have hsys : (s.heap.objs.size == sysModules) = false := beq_eq_false_iff_ne.mpr (Ne.symm (Nat.ne_of_lt I.big))
    have hql : (storedAllH [] qs).length ≤ sizeLine := Nat.le_trans storedAll_len (by rw [List.length_nil, Nat.zero_add, ← l2, l4]; exact lim_ok hlen)
    obtain ⟨m, rm⟩ := rawN_of hsys hql hm'
    have qne : qs ≠ [] := fun e => by rw [e] at l3; exact hne (List.eq_nil_of_length_eq_zero l3)
    exact ⟨.ref _, _, I.laid hk' (Nat.le_refl _) (dN_ok rm), rfl, q _ _ m (I.hok.fresh (Nat.le_refl _)) (storedAll_ne (.inr qne)) (RepN.puts .nil ok.rep)⟩
def opDict : OpN
  | [.list ds] => match pairsD ds with
    | some ps => if !ps.isEmpty && decide (ds.length ≤ lim) then some (.fr (.dict (dputs [] ps))) else none
    | none => none
  | _ => none
theorem dict_ok (ft : Fit B X k) : CallOk B X (.type "dict") opDict := by
  refine ⟨_, cr_dictN ft.calm ft.room.r.units, fun F pa s σ T H Q ds vs z j ts h q => ?_⟩
  rw [ft.p, ft.w, ft.kk]
  unfold opDict at h
  split at h
  · split at h
    · rename_i ps hp
      split at h
      · rename_i hc
        cases h
        simp only [Bool.and_eq_true, Bool.not_eq_true', decide_eq_true_eq] at hc
        obtain ⟨v, rfl, t⟩ := tops1 ts
        cases t with
        | lst e r => exact ⟨_, F, _, _, ps, rfl, e, j.sub, r, hp, (fun e => by rw [e] at hc; cases hc.1), hc.2, fun p qs n hp' hq rq => q _ _ _ (j.made hp' (.dN hq rq))⟩
      · cases h
    · cases h
  · cases h
end
end Rg
/-! Rg, part W: the pot (a dict of a list of ints and two ints), the script. -/
namespace Rg
open PySem L2

/-- the pot lies as a dict: "great", km, kt -/
def kvP (km kt : Str) (st : PotSt) (g : Addr) : List (Key × V) := [(.inr "great", .ref g), (.inr km, .int st.mixed), (.inr kt, .int st.turns)]
def potD (km kt : Str) : PotLay where
  pr st p g H := H p = some (.dK (kvP km kt st g)) ∧ H g = some (.lst (st.great.map V.int)) ∧ st.great.length ≤ 1000
  at' h e1 e2 := ⟨by rw [e1]; exact h.1, by rw [e2]; exact h.2.1, h.2.2⟩
  p_some h := ⟨_, h.1⟩
  g_some h := ⟨_, h.2.1⟩
structure Kys (km kt : Str) : Prop where
  a : ¬ ("great" : Str) = km
  b : ¬ ("great" : Str) = kt
  c : ¬ km = kt
section
variable {km kt : Str}
theorem kv0 (y : Kys km kt) (st : PotSt) (g : Addr) : valV (kvP km kt st g) (.inr "great" : Key) = some (.ref g) := by
  unfold kvP
  exact valV_pos rfl
theorem inr_ne {a b : Str} (h : ¬ a = b) : ¬ (Sum.inr a : Key) = Sum.inr b := fun e => h (Sum.inr.inj e)
theorem kv1 (y : Kys km kt) (st : PotSt) (g : Addr) : valV (kvP km kt st g) (.inr km : Key) = some (.int st.mixed) := by
  unfold kvP
  rw [valV_neg (inr_ne y.a)]
  exact valV_pos rfl
theorem kv2 (y : Kys km kt) (st : PotSt) (g : Addr) : valV (kvP km kt st g) (.inr kt : Key) = some (.int st.turns) := by
  unfold kvP
  rw [valV_neg (inr_ne y.b), valV_neg (inr_ne y.c)]
  exact valV_pos rfl
theorem put1 (y : Kys km kt) (st : PotSt) (g : Addr) (i : Int) : putK (kvP km kt st g) (.inr km : Key) (.int i) = kvP km kt { st with mixed := i } g := by
  have e : (kvP km kt st g).any (fun kv => decide (kv.1 = (.inr km : Key))) = true := by
    rw [valV_any, kv1 y]; rfl
  unfold putK
  rw [if_pos e]
  unfold kvP
  have c' : ¬ kt = km := fun h => y.c h.symm
  simp [y.a, y.b, y.c, c']
theorem put2 (y : Kys km kt) (st : PotSt) (g : Addr) (i : Int) : putK (kvP km kt st g) (.inr kt : Key) (.int i) = kvP km kt { st with turns := i } g := by
  have e : (kvP km kt st g).any (fun kv => decide (kv.1 = (.inr kt : Key))) = true := by
    rw [valV_any, kv2 y]; rfl
  unfold putK
  rw [if_pos e]
  unfold kvP
  simp [y.a, y.b, y.c]
end
section
variable {B : Bs} {X : Cx} {k : Nat} {F : Hp} {pa : Option (Addr × Addr)} {s : S} {σ : L2.St} {T : List (Vl × V)} {H : Hp} {km kt : Str}
variable {e a b c t o i tg iter : Expr} {es ts : List Expr} {f fa fb fc fo : DE} {g : DEs} {pos p apos cpos lpos : Pos}
theorem J.potAt (j : J B F pa s σ T H) {st : PotSt} (e : s.pot = some st) : ∃ p g, pa = some (p, g) ∧ B.L.pr st p g H := by
  have h := j.pot
  rw [e] at h
  cases pa with
  | none => exact h.elim
  | some z =>
    obtain ⟨p, g⟩ := z
    exact ⟨p, g, rfl, h.1⟩
theorem J.potUpd (j : J B F pa s σ T H) {st' : PotSt} {p g a : Addr} {o : HO} (e : pa = some (p, g)) (ha : a = p ∨ a = g) (hp : B.L.pr st' p g (upd H a o)) : J B F pa { s with pot := some st' } σ T (upd H a o) := by
  obtain ⟨z, _, _, f1, f2⟩ := j.pot.some_of e
  have fa : F a = none := by rcases ha with q | q <;> (rw [q]; assumption)
  have offA : ∀ {c}, OffPot pa c → c ≠ a := fun {c} off q => by
    obtain ⟨n1, n2⟩ := off p g e
    rcases ha with z | z
    · exact n1 (q.trans z)
    · exact n2 (q.trans z)
  have own' : ∀ {d c}, Own B F pa H d c → Own B F pa (upd H a o) d c := fun {d c} x => x.mono (.refl F) x.f (upd_ne (offA x.off))
  refine ⟨fun b u h => ?_, fun b u h off => ?_, j.fnew, j.f0, j.pa0, j.len, j.fzs, fun i d h => ?_, j.pts, j.une, fun t ht => ?_, j.tne, j.tse, ?_, j.ext.of fun _ _ _ h => ⟨h, rfl⟩⟩
  · rw [upd_ne fun q => by rw [q, fa] at h; cases h]
    exact j.sub b u h
  · rw [upd_ne (offA (j.offH0 h off))]
    exact j.keep b u h off
  · obtain ⟨c, h1, h2⟩ := j.own i d h
    exact ⟨c, h1, own' h2⟩
  · have h := j.tmp t ht
    obtain ⟨x, v⟩ := t
    cases x with
    | fz d => exact h
    | fr d => obtain ⟨c, h1, h2⟩ := h; exact ⟨c, h1, own' h2⟩
    | sl i => exact h
    | pt => exact h
    | gr => exact h
    | ob o => exact h
  · subst e
    exact ⟨hp, f1, f2⟩
/-! ### deck[key] -/
def dPotGr (fo : DE) : DE := fun s => match fo s with
  | some (.pt, s1) => match s1.pot with
    | some _ => some (.gr, s1)
    | none => none
  | _ => none
def dPotMix (fo : DE) : DE := fun s => match fo s with
  | some (.pt, s1) => match s1.pot with
    | some st => some (.fz (.int st.mixed), s1)
    | none => none
  | _ => none
def dPotTrn (fo : DE) : DE := fun s => match fo s with
  | some (.pt, s1) => match s1.pot with
    | some st => some (.fz (.int st.turns), s1)
    | none => none
  | _ => none
theorem hu1 (ft : Fit B X k) : X.A.units + 1 < cLine := by have := ft.room.r.units; omega
theorem ev_potGr {q : Pos} {m : Nat} (ft : Fit B X k) (hL : B.L = potD km kt) (y : Kys km kt) (h : EV B X o fo) (hs : NoSl (.Constant (.str "great") m q)) : EV B X (.Subscript o (.Constant (.str "great") m q) pos) (dPotGr fo) := by
  refine .of (pe_dget (hu1 ft) h.pe pe_str hs) fun F pa s σ T H Q x s' j hf q => ?_
  unfold dPotGr at hf
  split at hf
  · rename_i s1 h1
    split at hf
    · rename_i st h2
      cases hf
      refine ⟨F, pa, s, T, _, _, j, h1, fun F1 pa1 v H1 j1 => ?_⟩
      obtain ⟨p, g, e1, e2⟩ := j1.tmp _ List.mem_cons_self
      subst e2
      obtain ⟨p', g', e3, pr⟩ := j1.potAt h2
      rw [e1] at e3; cases e3
      rw [hL] at pr
      refine ⟨p, .ref g, rfl, ?_, q F1 pa1 _ H1 (j1.pop.push rfl ⟨p, g, e1, rfl⟩)⟩
      have := DGet.k (k := (.inr "great" : Key)) pr.1
      rw [kv0 y] at this
      exact this
    · cases hf
  · cases hf
theorem ev_potMix {q : Pos} {m : Nat} (ft : Fit B X k) (hL : B.L = potD km kt) (y : Kys km kt) (h : EV B X o fo) (hs : NoSl (.Constant (.str km) m q)) : EV B X (.Subscript o (.Constant (.str km) m q) pos) (dPotMix fo) := by
  refine .of (pe_dget (hu1 ft) h.pe pe_str hs) fun F pa s σ T H Q x s' j hf q => ?_
  unfold dPotMix at hf
  split at hf
  · rename_i s1 h1
    split at hf
    · rename_i st h2
      cases hf
      refine ⟨F, pa, s, T, _, _, j, h1, fun F1 pa1 v H1 j1 => ?_⟩
      obtain ⟨p, g, e1, e2⟩ := j1.tmp _ List.mem_cons_self
      subst e2
      obtain ⟨p', g', e3, pr⟩ := j1.potAt h2
      rw [e1] at e3; cases e3
      rw [hL] at pr
      refine ⟨p, _, rfl, ?_, q F1 pa1 _ H1 (j1.pop.pushFz (.int _))⟩
      have := DGet.k (k := (.inr km : Key)) pr.1
      rw [kv1 y] at this
      exact this
    · cases hf
  · cases hf
theorem ev_potTrn {q : Pos} {m : Nat} (ft : Fit B X k) (hL : B.L = potD km kt) (y : Kys km kt) (h : EV B X o fo) (hs : NoSl (.Constant (.str kt) m q)) : EV B X (.Subscript o (.Constant (.str kt) m q) pos) (dPotTrn fo) := by
  refine .of (pe_dget (hu1 ft) h.pe pe_str hs) fun F pa s σ T H Q x s' j hf q => ?_
  unfold dPotTrn at hf
  split at hf
  · rename_i s1 h1
    split at hf
    · rename_i st h2
      cases hf
      refine ⟨F, pa, s, T, _, _, j, h1, fun F1 pa1 v H1 j1 => ?_⟩
      obtain ⟨p, g, e1, e2⟩ := j1.tmp _ List.mem_cons_self
      subst e2
      obtain ⟨p', g', e3, pr⟩ := j1.potAt h2
      rw [e1] at e3; cases e3
      rw [hL] at pr
      refine ⟨p, _, rfl, ?_, q F1 pa1 _ H1 (j1.pop.pushFz (.int _))⟩
      have := DGet.k (k := (.inr kt : Key)) pr.1
      rw [kv2 y] at this
      exact this
    · cases hf
  · cases hf
/-! ### deck[key] = value -/
def dSetMix (fo fv : DE) : DS := fun s => match fv s with
  | some (.fz (.int i), s1) => match fo s1 with
    | some (.pt, s2) => match s2.pot with
      | some st => some (.nx, { s2 with pot := some { st with mixed := i } })
      | none => none
    | _ => none
  | _ => none
def dSetTrn (fo fv : DE) : DS := fun s => match fv s with
  | some (.fz (.int i), s1) => match fo s1 with
    | some (.pt, s2) => match s2.pot with
      | some st => some (.nx, { s2 with pot := some { st with turns := i } })
      | none => none
    | _ => none
  | _ => none
theorem es_setMix {q pos' : Pos} {m : Nat} {fv : DE} {value : Expr} (ft : Fit B X k) (hL : B.L = potD km kt) (y : Kys km kt) (h : EV B X o fo) (hv : EV B X value fv) (hs : swapsWith value (some (.Subscript o (.Constant (.str km) m q) pos')) pos.line X.env = pure false := by rfl) :
    ES B X (.Assign [.Subscript o (.Constant (.str km) m q) pos'] value pos) (dSetMix fo fv) := by
  refine .of (ps_dput (hu1 ft) h.pe pe_str hv.pe hs) fun F pa s σ T H D o s' nt j hf q => ?_
  unfold dSetMix at hf
  split at hf
  · rename_i i s1 h1
    split at hf
    · rename_i s2 h2
      split at hf
      · rename_i st h3
        cases hf
        refine ⟨F, pa, s, T, _, _, j, h1, fun F1 pa1 v H1 j1 => ?_⟩
        refine ⟨F1, pa1, s1, _, _, _, j1, h2, fun F2 pa2 u H2 j2 => ?_⟩
        have tv : B.Rep F2 (.int i) v := j2.tmp (.fz (.int i), v) (List.mem_cons_of_mem _ List.mem_cons_self)
        cases tv
        obtain ⟨p, g, e1, e2⟩ := j2.tmp _ List.mem_cons_self
        subst e2
        obtain ⟨p', g', e3, pr⟩ := j2.potAt h3
        rw [e1] at e3; cases e3
        rw [hL] at pr
        obtain ⟨pr1, pr2, pr3⟩ := pr
        refine ⟨p, _, rfl, DPut.k (k := (.inr km : Key)) pr1 (by rw [sizeLine_eq]; show 3 < 16777216; decide), q F2 pa2 σ _ ?_⟩
        have hne : g ≠ p := fun z => by rw [z, pr1] at pr2; cases pr2
        have := (j2.pop2).potUpd (st' := { st with mixed := i }) (o := .dK (putK (kvP km kt st g) (.inr km : Key) (.int i))) e1 (.inl rfl) (by rw [hL]; exact ⟨by rw [upd_same, put1 y], by rw [upd_ne hne]; exact pr2, pr3⟩)
        exact this
      · cases hf
    · cases hf
  · cases hf
theorem es_setTrn {q pos' : Pos} {m : Nat} {fv : DE} {value : Expr} (ft : Fit B X k) (hL : B.L = potD km kt) (y : Kys km kt) (h : EV B X o fo) (hv : EV B X value fv) (hs : swapsWith value (some (.Subscript o (.Constant (.str kt) m q) pos')) pos.line X.env = pure false := by rfl) :
    ES B X (.Assign [.Subscript o (.Constant (.str kt) m q) pos'] value pos) (dSetTrn fo fv) := by
  refine .of (ps_dput (hu1 ft) h.pe pe_str hv.pe hs) fun F pa s σ T H D o s' nt j hf q => ?_
  unfold dSetTrn at hf
  split at hf
  · rename_i i s1 h1
    split at hf
    · rename_i s2 h2
      split at hf
      · rename_i st h3
        cases hf
        refine ⟨F, pa, s, T, _, _, j, h1, fun F1 pa1 v H1 j1 => ?_⟩
        refine ⟨F1, pa1, s1, _, _, _, j1, h2, fun F2 pa2 u H2 j2 => ?_⟩
        have tv : B.Rep F2 (.int i) v := j2.tmp (.fz (.int i), v) (List.mem_cons_of_mem _ List.mem_cons_self)
        cases tv
        obtain ⟨p, g, e1, e2⟩ := j2.tmp _ List.mem_cons_self
        subst e2
        obtain ⟨p', g', e3, pr⟩ := j2.potAt h3
        rw [e1] at e3; cases e3
        rw [hL] at pr
        obtain ⟨pr1, pr2, pr3⟩ := pr
        refine ⟨p, _, rfl, DPut.k (k := (.inr kt : Key)) pr1 (by rw [sizeLine_eq]; show 3 < 16777216; decide), q F2 pa2 σ _ ?_⟩
        have hne : g ≠ p := fun z => by rw [z, pr1] at pr2; cases pr2
        have := (j2.pop2).potUpd (st' := { st with turns := i }) (o := .dK (putK (kvP km kt st g) (.inr kt : Key) (.int i))) e1 (.inl rfl) (by rw [hL]; exact ⟨by rw [upd_same, put2 y], by rw [upd_ne hne]; exact pr2, pr3⟩)
        exact this
      · cases hf
    · cases hf
  · cases hf
/-! ### the pot's list -/
/-- what the list's rules need of how the pot lies -/
structure GrLay (L : PotLay) : Prop where
  gr : ∀ {st p g H}, L.pr st p g H → H g = some (.lst (st.great.map V.int)) ∧ st.great.length ≤ 1000
  set : ∀ {st p g H ns}, L.pr st p g H → ns.length ≤ 1000 → L.pr { st with great := ns } p g (upd H g (.lst (ns.map V.int)))
theorem grLay_D : GrLay (potD km kt) := ⟨fun h => ⟨h.2.1, h.2.2⟩, fun {st p g H ns} h hl => by
  obtain ⟨h1, h2, h3⟩ := h
  have hne : p ≠ g := fun z => by rw [z, h2] at h1; cases h1
  exact ⟨by rw [upd_ne hne]; exact h1, upd_same, hl⟩⟩
def dGrNe (f : DE) : DT := fun s => match f s with
  | some (.gr, s1) => match s1.pot with
    | some st => some (!st.great.isEmpty, s1)
    | none => none
  | _ => none
theorem dp_ints {K : PySem.W.Frag} {H : Hp} : ∀ ns : List Int, DpAll K H (ns.map V.int) (ns.map PyData.int)
  | [] => .nil
  | n :: ns => .cons (.int n) (dp_ints ns)
theorem lay_ints : ∀ ns : List Int, PyData.canLayAll0 (ns.map PyData.int) = true
  | [] => rfl
  | n :: ns => by rw [List.map_cons, PyData.canLayAll0, lay_ints ns]; simp [PyData.canLay0]
theorem et_grNe (ft : Fit B X k) (gl : GrLay B.L) (h : EV B X a f) (hm : behindInMarks .NotEq (.List [] lpos) = false := by rfl) : ET B X (.Compare a [.NotEq] [.List [] lpos] pos) (dGrNe f) := by
  refine .of (pt_cmpR (op_neD ft.room.r.units) h.pe (pe_lst pa_nil) hm) fun F pa s σ T H Q x s' j hf q => ?_
  unfold dGrNe at hf
  split at hf
  · rename_i s1 h1
    split at hf
    · rename_i st h2
      cases hf
      refine ⟨F, pa, s, T, _, _, j, h1, fun F1 pa1 v H1 j1 => ?_⟩
      refine ⟨Nat.zero_le _, fun l hl => ?_⟩
      obtain ⟨p, g, e1, e2⟩ := j1.tmp _ List.mem_cons_self
      subst e2
      obtain ⟨p', g', e3, pr⟩ := j1.potAt h2
      rw [e1] at e3; cases e3
      obtain ⟨pr2, pr3⟩ := gl.gr pr
      have hne : g ≠ l := fun z => by rw [z, hl] at pr2; cases pr2
      rw [ft.kk]
      have hd : PyData.depthAll (st.great.map PyData.int) = 0 := PySem.W.depth_ints _
      refine ⟨.list (st.great.map .int), .list [], .lst (.of (by rw [upd_ne hne]; exact pr2)) (dp_ints _), .lst (.of upd_same) .nil, ?_, ?_, !st.great.isEmpty, ?_, q F1 pa1 _ (j1.pop.junk hl _)⟩
      · simp [SeqAt.shaped, PyData.canLay0, PyData.depth, lay_ints, hd]
      · simp [SeqAt.shaped, PyData.canLay0, PyData.depth, PyData.canLayAll0, PyData.depthAll]
      · cases hg : st.great with
        | nil => simp [PyData.eqv, PyData.eqvAll]
        | cons n ns => simp [PyData.eqv, PyData.eqvAll]
    · cases hf
  · cases hf
theorem gr_ty {p g : Addr} {st : PotSt} {H : Hp} (gl : GrLay B.L) (pr : B.L.pr st p g H) (ft : Fit B X k) : TyIs X "list" (.ref g) H := by
  intro pins σ s u I ru
  exact tyV_is I ru (.inl ⟨rfl, _, .of (gl.gr pr).1⟩)
/-- a value of the pot's list -/
theorem gr_at {F1 : Hp} {pa1 : Option (Addr × Addr)} {s1 : S} {T1 : List (Vl × V)} {H1 : Hp} {v : V} {st : PotSt} (j1 : J B F1 pa1 s1 σ T1 H1) (hm : ((Vl.gr, v) : Vl × V) ∈ T1) (h2 : s1.pot = some st) : ∃ p g, pa1 = some (p, g) ∧ v = .ref g ∧ B.L.pr st p g H1 := by
  obtain ⟨p, g, e1, e2⟩ := j1.tmp _ hm
  subst e2
  obtain ⟨p', g', e3, pr⟩ := j1.potAt h2
  rw [e1] at e3; cases e3
  exact ⟨p, g, e1, rfl, pr⟩
def dGrPop (f : DE) : DE := fun s => match f s with
  | some (.gr, s1) => match s1.pot with
    | some st => match st.great[st.great.length - 1]? with
      | some i => some (.fz (.int i), { s1 with pot := some { st with great := st.great.dropLast } })
      | none => none
    | none => none
  | _ => none
theorem ev_grPop (ft : Fit B X k) (gl : GrLay B.L) (h : EV B X o f)
    (hbase : attributeBase o "pop" X.env (eval o X.env) = eval o X.env := by rfl) (hline : (apos.endLine == cpos.line) = true := by rfl) : EV B X (.Call (.Attribute o "pop" apos) [] [] cpos) (dGrPop f) := by
  refine .of (pe_m0 PySem.F.plainAttrs_list PySem.F.slot_list_pop PySem.F.type_list_pop mt_pop h.pe hbase hline) fun F pa s σ T H Q x s' j hf q => ?_
  unfold dGrPop at hf
  split at hf
  · rename_i s1 h1
    split at hf
    · rename_i st h2
      split at hf
      · rename_i i h3
        cases hf
        refine ⟨F, pa, s, T, _, _, j, h1, fun F1 pa1 v H1 j1 => ?_⟩
        obtain ⟨p, g, e1, e2, pr⟩ := gr_at j1 List.mem_cons_self h2
        subst e2
        refine ⟨gr_ty gl pr ft, g, _, .int i, rfl, rfl, (gl.gr pr).1, ?_, ?_⟩
        · rw [List.length_map, List.getElem?_map, h3]; rfl
        · have hl : st.great.dropLast.length ≤ 1000 := by rw [List.length_dropLast]; have := (gl.gr pr).2; omega
          have := j1.pop.potUpd (st' := { st with great := st.great.dropLast }) (o := .lst (st.great.dropLast.map V.int)) e1 (.inr rfl) (gl.set pr hl)
          rw [← List.map_dropLast]
          exact q F1 pa1 _ _ (this.pushFz (.int _))
      · cases hf
    · cases hf
  · cases hf
def dGrPop0 (f : DE) : DE := fun s => match f s with
  | some (.gr, s1) => match s1.pot with
    | some st => match st.great with
      | i :: r => some (.fz (.int i), { s1 with pot := some { st with great := r } })
      | [] => none
    | none => none
  | _ => none
theorem ev_grPop0 {z : Pos} {m : Nat} (ft : Fit B X k) (gl : GrLay B.L) (h : EV B X o f)
    (hbase : attributeBase o "pop" X.env (eval o X.env) = eval o X.env := by rfl)
    (hfew : ((backTo cpos (starEach [.Constant (.int 0) m z] X.env)).all (fun x => !x.1) && (backToKw cpos (keywordEach [] X.env)).all (fun x => x.1.isSome)
      && decide (([.Constant (.int 0) m z] : List Expr).length + ([] : List Keyword).length + (if ([] : List Keyword).isEmpty then 0 else 1) < 30)) = true := by rfl)
    (hline : (apos.endLine == cpos.line) = true := by rfl) (hs : starEach [.Constant (.int 0) m z] X.env = (false, eval (.Constant (.int 0) m z) X.env) :: starEach [] X.env := by rfl) : EV B X (.Call (.Attribute o "pop" apos) [.Constant (.int 0) m z] [] cpos) (dGrPop0 f) := by
  refine .of (pe_m PySem.F.plainAttrs_list PySem.F.slot_list_pop PySem.F.type_list_pop mt_popAt h.pe (pa_cons pe_int pa_nil) hbase hfew hline hs rfl) fun F pa s σ T H Q x s' j hf q => ?_
  unfold dGrPop0 at hf
  split at hf
  · rename_i s1 h1
    split at hf
    · rename_i st h2
      split at hf
      · rename_i i r h3
        cases hf
        refine ⟨F, pa, s, T, _, _, j, h1, fun F1 pa1 v H1 j1 => ?_⟩
        obtain ⟨p, g, e1, e2, pr⟩ := gr_at j1 List.mem_cons_self h2
        subst e2
        have pr1 := (gl.gr pr).1
        have pr2 := (gl.gr pr).2
        refine ⟨gr_ty gl pr ft, g, _, 0, 0, .int i, rfl, rfl, pr1, by omega, by omega, ?_, ?_, ?_⟩
        · rw [h3]; exact seqIndex_of (by omega) (by simp)
        · rw [h3]; rfl
        · rw [h3] at pr2 ⊢
          have hl : r.length ≤ 1000 := by simp at pr2; omega
          have := j1.pop.potUpd (st' := { st with great := r }) (o := .lst (r.map V.int)) e1 (.inr rfl) (gl.set pr hl)
          exact q F1 pa1 _ _ (this.pushFz (.int _))
      · cases hf
    · cases hf
  · cases hf
def dGrAppend (f : DE) (g : DEs) : DE := fun s => match f s with
  | some (.gr, s1) => match s1.pot with
    | some _ => match g s1 with
      | some ([.fz (.int i)], s2) => match s2.pot with
        | some st => if st.great.length < 1000 then some (.fz .none, { s2 with pot := some { st with great := st.great ++ [i] } }) else none
        | none => none
      | _ => none
    | none => none
  | _ => none
theorem ev_grAppend {e : Expr} (ft : Fit B X k) (gl : GrLay B.L) (h : EV B X o f) (ha : EA B X [e] g)
    (hbase : attributeBase o "append" X.env (eval o X.env) = eval o X.env := by rfl)
    (hfew : ((backTo cpos (starEach [e] X.env)).all (fun x => !x.1) && (backToKw cpos (keywordEach [] X.env)).all (fun x => x.1.isSome)
      && decide (([e] : List Expr).length + ([] : List Keyword).length + (if ([] : List Keyword).isEmpty then 0 else 1) < 30)) = true := by rfl)
    (hline : (apos.endLine == cpos.line) = true := by rfl) (hs : starEach [e] X.env = (false, eval e X.env) :: starEach [] X.env := by rfl) : EV B X (.Call (.Attribute o "append" apos) [e] [] cpos) (dGrAppend f g) := by
  refine .of (pe_m PySem.F.plainAttrs_list PySem.F.slot_list_append PySem.F.type_list_append mt_append h.pe ha.pa hbase hfew hline hs rfl) fun F pa s σ T H Q x s' j hf q => ?_
  unfold dGrAppend at hf
  split at hf
  · rename_i s1 h1
    split at hf
    · rename_i st0 h2
      split at hf
      · rename_i i s2 h3
        split at hf
        · rename_i st h4
          split at hf
          · rename_i hl
            cases hf
            refine ⟨F, pa, s, T, _, _, j, h1, fun F1 pa1 v H1 j1 => ?_⟩
            obtain ⟨p, g0, e1, e2, pr⟩ := gr_at j1 List.mem_cons_self h2
            refine ⟨by subst e2; exact gr_ty gl pr ft, F1, pa1, s1, _, _, s2, j1, h3, fun F2 pa2 vs H2 hlen j2 => ?_⟩
            match vs, hlen, j2 with
            | [u], hlen, j2 =>
              have tv : B.Rep F2 (.int i) u := j2.tmp (.fz (.int i), u) List.mem_cons_self
              cases tv
              obtain ⟨p', g', e1', e2', pr'⟩ := gr_at j2 (List.mem_cons_of_mem _ List.mem_cons_self) h4
              subst e2'
              have pr1 := (gl.gr pr').1
              refine ⟨g', _, _, rfl, rfl, pr1, ?_, ?_⟩
              · rw [List.length_map, sizeLine_eq]; omega
              · have hl' : (st.great ++ [i]).length ≤ 1000 := by rw [List.length_append, List.length_singleton]; omega
                have := (j2.pop2).potUpd (st' := { st with great := st.great ++ [i] }) (o := .lst ((st.great ++ [i]).map V.int)) e1' (.inr rfl) (gl.set pr' hl')
                rw [List.map_append] at this
                exact q F2 pa2 _ _ (this.pushFz .non)
          · cases hf
        · cases hf
      · cases hf
    · cases hf
  · cases hf
/-! ### the script -/
def dScCut (i : Nat) (n : Int) : DE := fun s => match s.env[i]? with
  | some (some (.sc ns)) => some (.fr (.list (cut (ns.map .int) none (some n))), s)
  | _ => none
theorem sc_seq (j : J B F pa s σ T H) (h0 : B.pa0 = none) {i : Nat} {ns : List Int} (e : scAt s i ns) : ∃ a, σAt σ i (.ref a) ∧ SqL B.K H a (ns.map V.int) := by
  obtain ⟨a, h1, h2⟩ := j.ext.sc i ns e
  have off : OffPot B.pa0 a := fun p g e => by rw [h0] at e; cases e
  refine ⟨a, h1, ?_⟩
  rcases h2 with h2 | h2
  · refine .inl ?_
    rcases h2 with h2 | ⟨o, h2⟩
    · exact .inl (j.keep a _ h2 off)
    · exact .inr ⟨o, j.keep a _ h2 off⟩
  · exact .inr h2
theorem rep_ints {P : Program} {w : World} {K : PySem.W.Frag} : ∀ ns : List Int, RepAll P w K F (ns.map .int) (ns.map V.int)
  | [] => .nil
  | n :: ns => .cons (.int n) (rep_ints ns)
theorem ev_scCut {i : Nat} {x : Str} {n : Int} {m : Nat} {q1 q2 q3 : Pos} (ft : Fit B X k) (h0 : B.pa0 = none) (hN : X.N[i]? = some x) (hv : Vis X.env.scope x) (hd : (x == ("__debug__" : Str)) = false := by decide) (hcd : (x == ("__classdict__" : Str)) = false := by decide) :
    EV B X (.Subscript (.Name x q1) (.Slice none (some (.Constant (.int n) m q2)) none q3) pos) (dScCut i n) := by
  refine .of (pe_slice sl_list (pe_var hN hv hd hcd) po_none (po_some pe_int)) fun F pa s σ T H Q x s' j hf q => ?_
  unfold dScCut at hf
  split at hf
  · rename_i ns e
    cases hf
    obtain ⟨a, h1, h2⟩ := sc_seq j h0 e
    refine ⟨_, h1, n, rfl, a, _, rfl, ?_, fun l hl => q F pa _ _ (j.made hl (.lst (cut_rep (rep_ints ns) none (some n))))⟩
    rw [ft.kk]; exact h2
  · cases hf
def dScLen (i : Nat) : DE := fun s => match s.env[i]? with
  | some (some (.sc ns)) => some (.fz (.int ns.length), s)
  | _ => none
theorem ev_scLen {i : Nat} {x : Str} {q1 q2 : Pos} (ft : Fit B X k) (h0 : B.pa0 = none) (hN : X.N[i]? = some x) (hv : Vis X.env.scope x) (hg : Gl X "len") (hm : X.mg "len" = none) (hd : (x == ("__debug__" : Str)) = false := by decide) (hcd : (x == ("__classdict__" : Str)) = false := by decide)
    (he : starEach [.Name x q1] X.env = (false, eval (.Name x q1) X.env) :: starEach [] X.env := by rfl) :
    EV B X (.Call (.Name "len" q2) [.Name x q1] [] pos) (dScLen i) := by
  refine .of (pe_callB call_len hg hm PySem.boot_len (pa_cons (pe_var hN hv hd hcd) pa_nil) (by decide) (by decide) he rfl) fun F pa s σ T H Q x s' j hf q => ?_
  unfold dScLen at hf
  split at hf
  · rename_i ns e
    cases hf
    obtain ⟨a, h1, h2⟩ := sc_seq j h0 e
    refine ⟨_, h1, _, _, rfl, .inl ⟨_, by rw [ft.kk]; exact h2, rfl⟩, ?_⟩
    rw [List.length_map]
    exact q F pa _ _ (j.pushFz (.int _))
  · cases hf
end
end Rg
/-! Rg, part X: the pot is made; the def that makes it; the law's def. -/
namespace Rg
open PySem L2

section
variable {B : Bs} {X : Cx} {k : Nat} {F : Hp} {pa : Option (Addr × Addr)} {s : S} {σ : L2.St} {T : List (Vl × V)} {H : Hp} {km kt : Str}
theorem J.noPot (j : J B F pa s σ T H) (e : s.pot = none) : pa = none ∧ B.pa0 = none := by
  have h := j.pot
  rw [e] at h
  have e1 : pa = none := by
    cases pa with
    | none => rfl
    | some z => exact h.elim
  subst e1
  refine ⟨rfl, ?_⟩
  rcases j.pa0 with q | ⟨q, _⟩
  · exact q.symm
  · exact q
/-- two objects that nobody tracks become the pot -/
theorem J.potBorn {H2 : Hp} {p g : Addr} {st : PotSt} (j : J B F none s σ T H) (hB : B.pa0 = none) (fp : F p = none) (fg : F g = none) (hp0 : B.H0 p = none) (hg0 : B.H0 g = none) (hO : ∀ i d a, ownAt s i d → σAt σ i (.ref a) → a ≠ p ∧ a ≠ g)
    (hT : ∀ t ∈ T, t.1.isFr = true → ∀ a, t.2 = .ref a → a ≠ p ∧ a ≠ g) (hh : ∀ b, b ≠ p → H2 b = H b) (pr : B.L.pr st p g H2) : J B F (some (p, g)) { s with pot := some st } σ T H2 := by
  have own' : ∀ {d a}, Own B F none H d a → a ≠ p ∧ a ≠ g → Own B F (some (p, g)) H2 d a := fun {d a} x n => by
    obtain ⟨o, h1, c⟩ := x.cell
    exact ⟨x.f, x.h0, (fun p' g' e => by cases e; exact n), o, (hh a n.1).trans h1, c⟩
  refine ⟨fun b u e => ?_, fun b u e _ => ?_, j.fnew, j.f0, .inr ⟨hB, fun p' g' e => by cases e; exact ⟨hp0, hg0⟩⟩, j.len, j.fzs, fun i d e => ?_, fun i e => ?_, j.une, fun t ht => ?_, j.tne, j.tse, ⟨pr, fp, fg⟩, ⟨fun i e => ?_, j.ext.sc⟩⟩
  · rw [hh b fun q => by rw [q, fp] at e; cases e]
    exact j.sub b u e
  · rw [hh b fun q => by rw [q, hp0] at e; cases e]
    exact j.keep b u e fun p' g' e => by rw [hB] at e; cases e
  · obtain ⟨a, h1, h2⟩ := j.own i d e
    exact ⟨a, h1, own' h2 (hO i d a e h1)⟩
  · obtain ⟨_, _, e1, _⟩ := j.pts i e
    cases e1
  · have h := j.tmp t ht
    have hT' := hT t ht
    obtain ⟨x, v⟩ := t
    cases x with
    | fz d => exact h
    | fr d =>
      obtain ⟨a, h1, h2⟩ := h
      exact ⟨a, h1, own' h2 (hT' rfl a h1)⟩
    | sl i => exact h
    | pt => obtain ⟨_, _, e1, _⟩ := h; cases e1
    | gr => obtain ⟨_, _, e1, _⟩ := h; cases e1
    | ob o => exact h
  · obtain ⟨_, _, e1, _⟩ := j.ext.gr i e
    cases e1
/-! ### {"great": .., km: .., kt: ..} -/
def dPotNew (fg fm ft : DE) : DE := fun s => match fg s with
  | some (.fr (.list ds), s1) => match intsOf ds with
    | some ns => if ns.length ≤ 1000 then match fm s1 with
      | some (.fz (.int m), s2) => match ft s2 with
        | some (.fz (.int t), s3) => match s3.pot with
          | none => some (.pt, { s3 with pot := some ⟨ns, m, t⟩ })
          | some _ => none
        | _ => none
      | _ => none
      else none
    | none => none
  | _ => none
theorem merge3 (y : Kys km kt) (u v w : V) : mergeK [] [((.inr "great" : Key), u), (.inr km, v), (.inr kt, w)] = [((.inr "great" : Key), u), (.inr km, v), (.inr kt, w)] := by
  have h1 : ¬ (Sum.inr "great" : Key) = Sum.inr km := inr_ne y.a
  have h2 : ¬ (Sum.inr "great" : Key) = Sum.inr kt := inr_ne y.b
  have h3 : ¬ (Sum.inr km : Key) = Sum.inr kt := inr_ne y.c
  show putK (putK (putK [] (.inr "great" : Key) u) (.inr km) v) (.inr kt) w = _
  have e1 : putK ([] : List (Key × V)) (.inr "great" : Key) u = [(.inr "great", u)] := putK_new u rfl
  rw [e1]
  have e2 : putK [((.inr "great" : Key), u)] (.inr km : Key) v = [(.inr "great", u), (.inr km, v)] := putK_new v (by rw [valV_neg h1]; rfl)
  rw [e2]
  exact putK_new w (by rw [valV_neg h2, valV_neg h3]; rfl)
variable {e eg em et : Expr} {fg fm ft' : DE} {pos p1 p2 p3 : Pos} {m1 m2 m3 : Nat}
theorem ev_potNew (ft : Fit B X k) (hL : B.L = potD km kt) (y : Kys km kt) (hg : EV B X eg fg) (hm : EV B X em fm) (ht : EV B X et ft') :
    EV B X (.Dict [some (.Constant (.str "great") m1 p1), some (.Constant (.str km) m2 p2), some (.Constant (.str kt) m3 p3)] [eg, em, et] pos) (dPotNew fg fm ft') := by
  refine .of (pe_disp (pps_cons pe_str hg.pe (pps_cons pe_str hm.pe (pps_cons pe_str ht.pe pps_nil))) rfl rfl (by simp) (by show 3 ≤ 15; decide)) fun F pa s σ T H Q x s' j hf q => ?_
  unfold dPotNew at hf
  split at hf
  · rename_i ds s1 h1
    split at hf
    · rename_i ns hns
      split at hf
      · rename_i hlen
        split at hf
        · rename_i mi s2 h2
          split at hf
          · rename_i ti s3 h3
            split at hf
            · rename_i hpot
              cases hf
              intro p hp
              have j0 := j.made hp (d := .dict []) (.dK .nil)
              refine ⟨F, pa, s, _, _, s1, j0, h1, fun F1 pa1 v1 H1 j1 => ?_⟩
              refine ⟨F1, pa1, s1, _, _, s2, j1, h2, fun F2 pa2 v2 H2 j2 => ?_⟩
              refine ⟨F2, pa2, s2, _, _, s3, j2, h3, fun F3 pa3 v3 H3 j3 => ?_⟩
              obtain ⟨e1, hB⟩ := j3.noPot hpot
              subst e1
              have t3 : B.Rep F3 (.int ti) v3 := j3.tmp (.fz (.int ti), v3) List.mem_cons_self
              have t2 : B.Rep F3 (.int mi) v2 := j3.tmp (.fz (.int mi), v2) (List.mem_cons_of_mem _ List.mem_cons_self)
              cases t3
              cases t2
              have j4 := j3.pop2
              obtain ⟨g, eg, og⟩ := j4.tmp _ List.mem_cons_self
              subst eg
              obtain ⟨p', ep, op⟩ := j4.tmp _ (List.mem_cons_of_mem _ List.mem_cons_self)
              cases ep
              obtain ⟨og1, og2, og3⟩ := og.cell
              obtain ⟨op1, op2, op3⟩ := op.cell
              have hgl : ∃ vs, og1 = .lst vs ∧ RepAll B.P B.w B.K F3 ds vs := by
                generalize hd : PyData.list ds = dd at og3
                cases og3 with
                | lst r => cases hd; exact ⟨_, rfl, r⟩
                | dK _ => cases hd
                | dN _ _ => cases hd
              obtain ⟨vs, eo, rr⟩ := hgl
              subst eo
              have ev := ints_rep hns rr
              subst ev
              have hpe : H3 p = some (.dK []) := by
                generalize hd : PyData.dict [] = dd at op3
                cases op3 with
                | lst r => cases hd
                | dK r => cases hd; cases r; exact op2
                | dN n r => cases hd; cases r; exact absurd rfl n
              refine ⟨hpe, [((.inr "great" : Key), .ref g), (.inr km, .int mi), (.inr kt, .int ti)], rfl, by show 3 ≤ 15; decide, ?_⟩
              rw [merge3 y]
              have tp := List.pairwise_cons.mp j4.tne
              have tp2 := List.pairwise_cons.mp tp.2
              have hgp : g ≠ p := fun z => tp.1 _ List.mem_cons_self rfl rfl (by rw [z])
              have born := (j4.pop2).potBorn (H2 := upd H3 p (.dK (kvP km kt ⟨ns, mi, ti⟩ g))) (p := p) (g := g) (st := ⟨ns, mi, ti⟩) hB op.f og.f op.h0 og.h0 (fun i d a h1 h2 => ⟨fun z => ?_, fun z => ?_⟩) (fun t ht hfr a ea => ⟨fun z => ?_, fun z => ?_⟩) (fun b hb => upd_ne hb) (by rw [hL]; exact ⟨upd_same, by rw [upd_ne hgp]; exact og2, hlen⟩)
              · exact q F3 _ _ _ (born.push rfl ⟨p, g, rfl, rfl⟩)
              · exact j4.tse _ (List.mem_cons_of_mem _ List.mem_cons_self) rfl i d h1 (by rw [← z]; exact h2)
              · exact j4.tse _ List.mem_cons_self rfl i d h1 (by rw [← z]; exact h2)
              · exact tp2.1 t ht rfl hfr (by rw [ea, z])
              · exact tp.1 t (List.mem_cons_of_mem _ ht) rfl hfr (by rw [ea, z])
            · cases hf
          · cases hf
        · cases hf
      · cases hf
    · cases hf
  · cases hf
end

/-! ### the def that makes the pot of the script -/
def spMk (K : PySem.W.Frag) (L : PotLay) (D : List Int → Option PotSt) : SpG := fun vs H Q => ∃ a ns F st, vs = [.ref a] ∧ SqL K H a (ns.map V.int) ∧ Same F H ∧ D ns = some st ∧
  ∀ F' p g H', Same F F' → Same F' H' → (∀ b o, F' b = some o → F b = some o ∨ H b = none) → Same H H' → H p = none → H g = none → L.pr st p g H' → F' p = none → F' g = none → Q (.ref p) H'
def scEnv (n : Nat) (ns : List Int) : List (Option Sl) := some (.sc ns) :: List.replicate (n - 1) none
def runMk (n : Nat) (f : DS) : List Int → Option PotSt := fun ns => match f ⟨scEnv n ns, none⟩ with
  | some (.rt .pt, s) => s.pot
  | _ => none
section
variable {P : Program} {w : World} {K : PySem.W.Frag} {L : PotLay} {F H : Hp}
theorem scEnv_at {n i : Nat} {ns : List Int} {y : Sl} (h : (scEnv n ns)[i]? = some (some y)) : i = 0 ∧ y = .sc ns := by
  unfold scEnv at h
  cases i with
  | zero => simp at h; exact ⟨rfl, h.symm⟩
  | succ i =>
    rw [List.getElem?_cons_succ, List.getElem?_replicate] at h
    split at h <;> cases h
theorem J.entrySc {N : List Str} {a : Addr} {ns : List Int} (sf : Same F H) (hN : 0 < N.length) (hs : SqL K H a (ns.map V.int)) : J (mkB P w K L H F none) F none ⟨scEnv N.length ns, none⟩ (L2.start N [.ref a]) [] H := by
  refine ⟨sf, fun a o e _ => e, fun a o e => .inl e, .refl F, .inl rfl, ?_, fun i d e => ?_, fun i d e => ?_, fun i e => ?_, fun i j d e q q' r => ?_, fun t ht => (nomatch ht), .nil, fun t ht => (nomatch ht), trivial, ⟨fun i e => ?_, fun i ns' e => ?_⟩⟩
  · show (scEnv N.length ns).length = _
    unfold scEnv L2.start
    simp
  · cases (scEnv_at e).2
  · cases (scEnv_at e).2
  · cases (scEnv_at e).2
  · cases (scEnv_at q).2
  · cases (scEnv_at e).2
  · obtain ⟨h1, h2⟩ := scEnv_at e
    subst h1
    cases h2
    exact ⟨a, start_at rfl, hs⟩
theorem fn_mk {mg : Str → Option Value} {base : Heap} {k : Nat} {f : Addr} {fd : FuncData} {qual x y : Str} {st : Stmt} {N : List Str} {fs : DS} (Fn : Fun K x qual st f fd) (Sc : FnScope N [y] (defScope st)) (hN : 0 < N.length)
    (hbody : ∀ (cdv : Value) (A : Around) (outer : List Env) (s : Shared) (H : Hp) (B : Bs), Fit B (cxOf CX0 P w K mg base N qual (defScope st) f cdv A outer s H E0).nox k → B.L = L → B.pa0 = none → EB B (cxOf CX0 P w K mg base N qual (defScope st) f cdv A outer s H E0).nox (defBody st) fs) :
    FnG P w K mg base (k + 1) f fd [y] (spMk K L (runMk N.length fs)) := by
  refine fnG_of (N := N) Fn Sc (fun vs H Q h => ?_) fun cdv A outer s H vs Q hr h => ?_
  · obtain ⟨a, ns, F, st, h1, _⟩ := h
    rw [h1]; rfl
  · obtain ⟨a, ns, F, st0, e1, hs, sf, hD, q⟩ := h
    subst e1
    have ft : Fit (mkB P w K L H F none) (cxOf CX0 P w K mg base N qual (defScope st) f cdv A outer s H E0).nox k := ⟨rfl, rfl, rfl, hr, rfl⟩
    have hb := hbody cdv A outer s H (mkB P w K L H F none) ft rfl rfl
    refine ⟨_, hb.ps, ?_⟩
    unfold runMk at hD
    split at hD
    · rename_i s1 h1
      refine ⟨F, none, _, [], _, s1, fun t ht => (nomatch ht), J.entrySc sf hN hs, h1, fun F' pa' σ' v H' j' => ?_⟩
      obtain ⟨p, g, e2, e3⟩ := j'.tmp _ List.mem_cons_self
      subst e2 e3
      have hp := j'.pot
      rw [hD] at hp
      obtain ⟨pr, fp, fg⟩ := hp
      have hn : H p = none ∧ H g = none := by
        rcases j'.pa0 with z | ⟨_, z⟩
        · cases z
        · exact z p g rfl
      exact q F' p g H' j'.f0 j'.sub j'.fnew (fun b o e => j'.keep b o e fun p' g' z => by cases z) hn.1 hn.2 pr fp fg
    · cases hD
end
section
variable {B : Bs} {X : Cx} {k : Nat} {f : Addr} {fd : FuncData} {ps : List Str} {x y : Str} {p pos q1 : Pos} {i : Nat} {D : List Int → Option PotSt}
def dMk (D : List Int → Option PotSt) (i : Nat) : DE := fun s => match s.env[i]? with
  | some (some (.sc ns)) => match D ns, s.pot with
    | some st, none => some (.pt, { s with pot := some st })
    | _, _ => none
  | _ => none
theorem ev_mk (ft : Fit B X k) (h0 : B.pa0 = none) (Fn : FnG X.prog X.w X.K X.mg X.base k f fd [y] (spMk X.K B.L D)) (hg : Gl X x) (hm : X.mg x = some (.ref f)) (hk : PySem.W.keepIn X.K (.ref f) = true) (hb : KB X.K fd [y] 1 [] [0])
    {z : Str} (hN : X.N[i]? = some z) (hv : Vis X.env.scope z) (hd : (z == ("__debug__" : Str)) = false := by decide) (hcd : (z == ("__classdict__" : Str)) = false := by decide)
    (hdb : (x == ("__debug__" : Str)) = false := by decide) (he : starEach [.Name z q1] X.env = (false, eval (.Name z q1) X.env) :: starEach [] X.env := by rfl) :
    EV B X (.Call (.Name x p) [.Name z q1] [] pos) (dMk D i) := by
  refine .of (pe_callG Fn ft.room hg hm hk hb (pa_cons (pe_var hN hv hd hcd) pa_nil) hdb he rfl) fun F pa s σ T H Q x s' j hf q => ?_
  unfold dMk at hf
  split at hf
  · rename_i ns e
    split at hf
    · rename_i st h1 h2
      cases hf
      obtain ⟨a, g1, g2⟩ := sc_seq j h0 e
      obtain ⟨e1, hB⟩ := j.noPot h2
      subst e1
      refine ⟨_, g1, rfl, rfl, a, ns, F, st, rfl, by rw [ft.kk]; exact g2, j.sub, h1, fun F' p g H' sf sh fn sm hp hg pr fp fg => ?_⟩
      have j1 : J B F' none s σ T H' := j.move sf sh fn fun b ⟨o, e⟩ => (sm b o e).trans e.symm
      have ne : ∀ {b}, (∃ o, H b = some o) → b ≠ p ∧ b ≠ g := fun {b} ⟨o, e⟩ => ⟨fun z => (by rw [z, hp] at e; cases e), fun z => (by rw [z, hg] at e; cases e)⟩
      have j2 := j1.potBorn (H2 := H') (p := p) (g := g) (st := st) hB fp fg (j.h0none hp) (j.h0none hg) (fun i d b h3 h4 => by
        obtain ⟨c, h5, h6⟩ := j.own i d h3
        have := h4.inj h5
        cases this
        exact ne h6.some) (fun t ht hfr b eb => by
        have h3 := j.tmp t ht
        obtain ⟨xx, v⟩ := t
        cases xx with
        | fr d =>
          obtain ⟨c, h5, h6⟩ := h3
          have eb' : v = .ref b := eb
          rw [eb'] at h5
          cases h5
          exact ne h6.some
        | fz _ => cases hfr
        | sl _ => cases hfr
        | pt => cases hfr
        | gr => cases hfr
        | ob _ => cases hfr) (fun b _ => rfl) pr
      exact q F' _ _ H' (j2.push rfl ⟨p, g, rfl, rfl⟩)
    · cases hf
  · cases hf
end
end Rg
/-! Rg, part Y: the law's def, its call from the top. -/
namespace Rg
open PySem L2 PySem.Spec PyProof.Rows

/-- the law's call (after L2.law_call), guards known -/
theorem law_callG {P : Program} {w : World} {K : PySem.W.Frag} {mg mb : Str → Option Value} {k : Nat} {fa a : Addr} {fd : FuncData} {x : Str} {sp : SpG} {s₁ : Shared} {vs : List Value} {ns : List Int}
    (KX : K.In s₁.heap) (hns : s₁.heap.Ns mainGlobals mg) (hb : s₁.heap.Ns builtinsNs mb) (hbb : ∀ x : Str, x ≠ "__name__" → mb x = bootBuiltins x) (hlim : s₁.heap.NoLimit) (hg : s₁.gens = #[])
    (ha : s₁.heap.get? a = some { cls := .type "list", data := .seq vs.toArray }) (hi : IntsAre vs ns) (hl : ns.length ≤ sizeLine) (hr : RoomG k callerA)
    (F : ∀ base : Heap, K.In base → base.Ns mainGlobals mg → FnG P w K mg base k fa fd [x] sp) (hbind : ∀ (s : Shared) (u : Value), BindsTo s fd ⟨[u], []⟩ [(x, u)])
    (hsp : ∀ H : Hp, Only H → SqL K H a (ns.map V.int) → sp [.ref a] H (fun v _ => v = .bl true)) :
    codeAny (model P w) callerA (.call (.ref fa) ⟨[.ref a], []⟩) (fun r s' => r = .ok (.ret (.bool true)) ∧ OldK s₁.heap s'.heap ∧ s'.os = s₁.os ∧ AllBare s'.gens) s₁ := by
  have rv := vals_ints hi
  have lenV := hi.length
  -- from an abstract heap in which nothing but the script may be tracked
  have core : ∀ H : Hp, Only H → SqL K H a (ns.map V.int) → HOk P w H s₁.heap → (∀ b, H b ≠ none → b = a) → (H a ≠ none → K.lookup a = none) →
      codeAny (model P w) callerA (.call (.ref fa) ⟨[.ref a], []⟩) (fun r s' => r = .ok (.ret (.bool true)) ∧ OldK s₁.heap s'.heap ∧ s'.os = s₁.os ∧ AllBare s'.gens) s₁ := by
    intro H hO hS hok hA hK
    have base_of : ∀ {b : Addr} {o : Obj}, s₁.heap.get? b = some o → H b = none → (hidT s₁.heap H).get? b = some o := fun e n => hidT_get e n
    have noA : ∀ {b : Addr} {o : Obj} {es : Array DictEntry} {ep : Nat}, s₁.heap.get? b = some o → o.data = .dict es ep → H b = none := fun {b o es ep} e d => by
      cases q : H b with
      | none => rfl
      | some u =>
        have e' : b = a := hA b (by rw [q]; simp)
        subst e'
        rw [ha] at e; cases e
        have d' : Data.seq vs.toArray _ = Data.dict es ep := d
        cases d'
    have nsK : ∀ {b : Addr} {m : Str → Option Value}, s₁.heap.Ns b m → (hidT s₁.heap H).Ns b m := fun {b m} ⟨o, es, ep, e, d, r⟩ => ⟨o, es, ep, base_of e (noA e d), d, r⟩
    have hKb : K.In (hidT s₁.heap H) := fun b o e => base_of (KX b o e) (by
      cases q : H b with
      | none => rfl
      | some u =>
        have e' : b = a := hA b (by rw [q]; simp)
        subst e'
        rw [hK (by rw [q]; simp)] at e; cases e)
    have hM : Mod K mg (hidT s₁.heap H) := ⟨hKb, nsK hns, ⟨mb, nsK hb, hbb⟩, let ⟨mc, h1, h2⟩ := hlim; ⟨mc, nsK h1, h2⟩⟩
    have e0 : Env0 P w K mg (hidT s₁.heap H) callerA [] s₁ H := ⟨rfl, hM, fun b o e => of_hidT e, Nat.le_of_eq (hidT_size _ _), trivial, fun b hb => absurd (show b ∈ ([] : List Addr) from hb) (by simp), hok, .of_eq hg⟩
    refine codeAny_mono ((F _ hKb (nsK hns)).run callerA [] s₁ H ⟨[.ref a], []⟩ [.ref a] [.ref a] _ hr e0 (hbind s₁ (.ref a)) (.cons rfl .nil) (hsp H hO hS)) fun r s' h => ?_
    cases r with
    | error e => exact False.elim h
    | ok fl =>
      cases fl with
      | next => exact False.elim h
      | brk => exact False.elim h
      | cont => exact False.elim h
      | ret u =>
        obtain ⟨v, H', os, bare, un, hok', r', q⟩ := h
        have q' : v = .bl true := q
        subst q'
        obtain rfl : u = Value.bool true := r'
        refine ⟨rfl, OldK.of_keep fun b o e => ?_, os, bare⟩
        cases q : H b with
        | none => exact un.keep b o e q (by intro z; exact absurd (show b ∈ ([] : List Addr) from z) (by simp)) (by simp)
        | some u =>
          rcases hO b with z | ⟨ob, xs, z⟩
          · rw [q] at z; cases z
          · have z2 := un.frzs b ob _ z
            obtain ⟨e1, _⟩ := hok b _ z
            obtain ⟨e2, _⟩ := hok' b _ z2
            rw [e] at e1; cases e1
            exact e2
  cases hk : K.lookup a with
  | some o =>
    -- the script is one of the module's own objects
    have e := KX a o hk
    rw [ha] at e
    cases e
    refine core (fun _ => none) (fun _ => .inl rfl) (.inr ⟨_, vs.toArray, _, hk, rfl, rfl, rfl, by rw [List.size_toArray, lenV]; exact hl, by simpa using rv⟩) (fun b u z => by have z' : (none : Option HO) = some u := z; cases z') (fun b z => absurd rfl z) fun z => absurd rfl z
  | none =>
    refine core (fun b => if b = a then some (.frz { cls := .type "list", data := .seq vs.toArray } (.lst (ns.map V.int))) else none) (fun b => ?_) (.inl (.inr ⟨{ cls := .type "list", data := .seq vs.toArray }, if_pos rfl⟩)) (fun b u z => ?_) (fun b z => ?_) fun _ => hk
    · by_cases hb : b = a
      · exact .inr ⟨_, _, if_pos hb⟩
      · exact .inl (if_neg hb)
    · by_cases hb : b = a
      · have z' := (if_pos hb).symm.trans z
        cases z'
        subst hb
        exact ⟨ha, by rw [List.length_map]; exact hl, vs, _, rv, ha⟩
      · have z' := (if_neg hb).symm.trans z
        cases z'
    · by_cases hb : b = a
      · exact hb
      · exact absurd (if_neg hb) z

theorem walk_ofG {l : PySem.W.OpenLaw} {n k : Nat} {q : Program} {loose : List Str} {XP : (Str → Option Value) → Heap → Prop} {YP : World → Heap → Prop} {d : DefRec} {K : Params → PySem.W.Frag} {sp : World → SpG} {x : Str}
    (hn : l.most = some n) (hn2 : n ≤ sizeLine) (hdf : d.params.defaults = []) (hr : RoomG k callerA)
    (hY : ∀ (w : World) (h : Heap), YP w h → (K w.params).In h)
    (F : ∀ (w : World) (mg : Str → Option Value) (fa : Addr) (h : Heap), (K w.params).In h → h.Ns mainGlobals mg → mg d.name = some (.ref fa) →
      ∃ fd : FuncData, (∀ (s : Shared) (u : Value), BindsTo s fd ⟨[u], []⟩ [(x, u)]) ∧
        ∀ base : Heap, (K w.params).In base → base.Ns mainGlobals mg → FnG l.prog w (K w.params) mg base k fa fd [x] (sp w))
    (hsp : ∀ (w : World) (H : Hp) (a : Addr) (ns : List Int), ns.length ≤ n → Only H → SqL (K w.params) H a (ns.map V.int) → sp w [.ref a] H (fun v _ => v = .bl true)) :
    PySem.W.WalkO q loose XP YP l.row.toRowW d [] (fun f vs => PySem.call f vs) := by
  refine Att.attach_call hn hdf fun w s₀ s₁ mg mb fa o pm cd doc a vs ns G Y ho hd hcd hmg hobj hints hlen hg => ?_
  have KX := hY w _ Y
  obtain ⟨fd, hb, hF⟩ := F w mg fa _ KX G.T.g hmg
  exact law_callG KX G.T.g G.T.b G.T.builtins G.T.nolimit hg hobj hints (Nat.le_trans hlen hn2) hr hF hb (fun H hO hS => hsp w H a ns hlen hO hS)

def spLaw (K : PySem.W.Frag) : SpG := fun vs H Q => ∃ (a : Addr) (ns : List Int), vs = [.ref a] ∧ SqL K H a (ns.map V.int) ∧ ns.length ≤ 63 ∧ ∀ H', Q (.bl true) H'
theorem fn_law {P : Program} {w : World} {K : PySem.W.Frag} (L : PotLay) {mg : Str → Option Value} {base : Heap} {k : Nat} {f : Addr} {fd : FuncData} {qual x y : Str} {st : Stmt} {N : List Str} {fs : DS} (Fn : Fun K x qual st f fd) (Sc : FnScope N [y] (defScope st)) (hN : 0 < N.length)
    (hbody : ∀ (cdv : Value) (A : Around) (outer : List Env) (s : Shared) (H : Hp) (B : Bs), Fit B (cxOf CX0 P w K mg base N qual (defScope st) f cdv A outer s H E0).nox k → B.L = L → B.pa0 = none → EB B (cxOf CX0 P w K mg base N qual (defScope st) f cdv A outer s H E0).nox (defBody st) fs)
    (hall : ∀ ns : List Int, ns.length ≤ 63 → ∃ s', fs ⟨scEnv N.length ns, none⟩ = some (.rt (.fz (.bool true)), s')) : FnG P w K mg base (k + 1) f fd [y] (spLaw K) := by
  refine fnG_of (N := N) Fn Sc (fun vs H Q h => ?_) fun cdv A outer s H vs Q hr h => ?_
  · obtain ⟨a, ns, h1, _⟩ := h
    rw [h1]; rfl
  · obtain ⟨a, ns, e1, hs, hl, q⟩ := h
    subst e1
    have ft : Fit (mkB P w K L H (fun _ => none) none) (cxOf CX0 P w K mg base N qual (defScope st) f cdv A outer s H E0).nox k := ⟨rfl, rfl, rfl, hr, rfl⟩
    have hb := hbody cdv A outer s H (mkB P w K L H (fun _ => none) none) ft rfl rfl
    obtain ⟨s1, h1⟩ := hall ns hl
    have sf : Same (fun _ => none) H := fun b o e => by cases e
    refine ⟨_, hb.ps, fun _ => none, none, _, [], _, s1, fun t ht => (nomatch ht), J.entrySc sf hN hs, h1, fun F' pa' σ' v H' j' => ?_⟩
    have tv := rep_bl (j'.tmp _ List.mem_cons_self)
    subst tv
    exact q H'
end Rg
/-! Rg, part Z: tuple(range ..), list(range ..), dict.get; short forms for printed proofs. -/
namespace Rg
open PySem L2

section
variable {B : Bs} {X : Cx} {k : Nat} {F : Hp} {pa : Option (Addr × Addr)} {s : S} {σ : L2.St} {T : List (Vl × V)} {H : Hp}
variable {e a b c t o i tg iter : Expr} {es ts : List Expr} {f fa fb fc fo : DE} {g : DEs} {pos p apos cpos lpos p2 : Pos}
theorem range_rep {P : Program} {w : World} {K : PySem.W.Frag} (lo hi : Int) : RepAll P w K F (rangeD lo 1 (hi - lo).toNat) (rgV lo hi) := by
  unfold rangeD rgV
  generalize List.range (hi - lo).toNat = l
  induction l with
  | nil => exact .nil
  | cons x xs ih =>
    rw [List.map_cons, List.map_cons, Int.mul_one]
    exact .cons (.int _) ih
def okRg (lo hi : Int) : Bool := small62 lo && small62 hi && decide ((hi - lo).toNat ≤ lim)
theorem okRg_of {lo hi : Int} (h : okRg lo hi = true) : RgOk lo hi := by
  simp only [okRg, Bool.and_eq_true, decide_eq_true_eq] at h
  obtain ⟨⟨h1, h2⟩, h3⟩ := h
  obtain ⟨a1, a2⟩ := small62_iff h1
  obtain ⟨b1, b2⟩ := small62_iff h2
  exact ⟨a1, a2, b1, b2, Nat.le_trans h3 (by decide)⟩
def dRgT1 (f : DE) : DE := fun s => match dSet f s with
  | some (.fz (.int j), s1) => if okRg 0 j then some (.fz (.tuple (rangeD 0 1 (j - 0).toNat)), s1) else none
  | _ => none
def dRgL1 (f : DE) : DE := fun s => match dSet f s with
  | some (.fz (.int j), s1) => if okRg 0 j then some (.fr (.list (rangeD 0 1 (j - 0).toNat)), s1) else none
  | _ => none
def dRgT2 (f f2 : DE) : DE := fun s => match dSet f s with
  | some (.fz (.int i), s1) => match dSet f2 s1 with
    | some (.fz (.int j), s2) => if okRg i j then some (.fz (.tuple (rangeD i 1 (j - i).toNat)), s2) else none
    | _ => none
  | _ => none
def dRgL2 (f f2 : DE) : DE := fun s => match dSet f s with
  | some (.fz (.int i), s1) => match dSet f2 s1 with
    | some (.fz (.int j), s2) => if okRg i j then some (.fr (.list (rangeD i 1 (j - i).toNat)), s2) else none
    | _ => none
  | _ => none
theorem ev_rgT1 (ft : Fit B X k) (hg : Gl X "tuple") (hm : X.mg "tuple" = none) (hg2 : Gl X "range") (hm2 : X.mg "range" = none) (h : EV B X a f) (na : starEach [a] X.env = (false, eval a X.env) :: starEach [] X.env := by rfl)
    (nb : starEach [Expr.Call (.Name "range" p2) [a] [] lpos] X.env = (false, eval (Expr.Call (.Name "range" p2) [a] [] lpos) X.env) :: starEach [] X.env := by rfl) : EV B X (.Call (.Name "tuple" p) [.Call (.Name "range" p2) [a] [] lpos] [] pos) (dRgT1 f) := by
  refine .of (pe_tupRg ft.calm hg hm (prg_1 hg2 hm2 h.set.pe na) nb) fun F pa s σ T H Q x s' j hf q => ?_
  unfold dRgT1 at hf
  split at hf
  · rename_i n s1 h1
    split at hf
    · rename_i hc
      cases hf
      refine ⟨F, pa, s, T, _, _, j, h1, fun F1 pa1 v H1 j1 => ?_⟩
      have tv : B.Rep F1 (.int n) v := j1.tmp (.fz (.int n), v) List.mem_cons_self
      cases tv
      exact ⟨n, rfl, okRg_of hc, fun l hl => q _ _ _ _ (j1.pop.newTup hl (range_rep 0 n))⟩
    · cases hf
  · cases hf
theorem ev_rgL1 (ft : Fit B X k) (hg : Gl X "list") (hm : X.mg "list" = none) (hg2 : Gl X "range") (hm2 : X.mg "range" = none) (h : EV B X a f) (na : starEach [a] X.env = (false, eval a X.env) :: starEach [] X.env := by rfl)
    (nb : starEach [Expr.Call (.Name "range" p2) [a] [] lpos] X.env = (false, eval (Expr.Call (.Name "range" p2) [a] [] lpos) X.env) :: starEach [] X.env := by rfl) : EV B X (.Call (.Name "list" p) [.Call (.Name "range" p2) [a] [] lpos] [] pos) (dRgL1 f) := by
  refine .of (pe_listRg ft.calm hg hm (prg_1 hg2 hm2 h.set.pe na) nb) fun F pa s σ T H Q x s' j hf q => ?_
  unfold dRgL1 at hf
  split at hf
  · rename_i n s1 h1
    split at hf
    · rename_i hc
      cases hf
      refine ⟨F, pa, s, T, _, _, j, h1, fun F1 pa1 v H1 j1 => ?_⟩
      have tv : B.Rep F1 (.int n) v := j1.tmp (.fz (.int n), v) List.mem_cons_self
      cases tv
      exact ⟨n, rfl, okRg_of hc, fun l hl => q _ _ _ _ (j1.pop.made hl (.lst (range_rep 0 n)))⟩
    · cases hf
  · cases hf
theorem ev_rgT2 (ft : Fit B X k) (hg : Gl X "tuple") (hm : X.mg "tuple" = none) (hg2 : Gl X "range") (hm2 : X.mg "range" = none) (h : EV B X a f) (h2 : EV B X b fb) (na : starEach [a, b] X.env = (false, eval a X.env) :: starEach [b] X.env := by rfl)
    (na2 : starEach [b] X.env = (false, eval b X.env) :: starEach [] X.env := by rfl) (hp : (backTo lpos (starEach [b] X.env)).any (·.1) = false := by rfl)
    (nb : starEach [Expr.Call (.Name "range" p2) [a, b] [] lpos] X.env = (false, eval (Expr.Call (.Name "range" p2) [a, b] [] lpos) X.env) :: starEach [] X.env := by rfl) : EV B X (.Call (.Name "tuple" p) [.Call (.Name "range" p2) [a, b] [] lpos] [] pos) (dRgT2 f fb) := by
  refine .of (pe_tupRg ft.calm hg hm (prg_2 hg2 hm2 h.set.pe h2.set.pe na na2 hp) nb) fun F pa s σ T H Q x s' j hf q => ?_
  unfold dRgT2 at hf
  split at hf
  · rename_i n s1 h1
    split at hf
    · rename_i m s2 h3
      split at hf
      · rename_i hc
        cases hf
        refine ⟨F, pa, s, T, _, _, j, h1, fun F1 pa1 v H1 j1 => ?_⟩
        refine ⟨F1, pa1, s1, _, _, _, j1, h3, fun F2 pa2 u H2 j2 => ?_⟩
        have tv : B.Rep F2 (.int n) v := j2.tmp (.fz (.int n), v) (List.mem_cons_of_mem _ List.mem_cons_self)
        have tu : B.Rep F2 (.int m) u := j2.tmp (.fz (.int m), u) List.mem_cons_self
        cases tv
        cases tu
        exact ⟨n, m, rfl, rfl, okRg_of hc, fun l hl => q _ _ _ _ (j2.pop2.newTup hl (range_rep n m))⟩
      · cases hf
    · cases hf
  · cases hf
theorem ev_rgL2 (ft : Fit B X k) (hg : Gl X "list") (hm : X.mg "list" = none) (hg2 : Gl X "range") (hm2 : X.mg "range" = none) (h : EV B X a f) (h2 : EV B X b fb) (na : starEach [a, b] X.env = (false, eval a X.env) :: starEach [b] X.env := by rfl)
    (na2 : starEach [b] X.env = (false, eval b X.env) :: starEach [] X.env := by rfl) (hp : (backTo lpos (starEach [b] X.env)).any (·.1) = false := by rfl)
    (nb : starEach [Expr.Call (.Name "range" p2) [a, b] [] lpos] X.env = (false, eval (Expr.Call (.Name "range" p2) [a, b] [] lpos) X.env) :: starEach [] X.env := by rfl) : EV B X (.Call (.Name "list" p) [.Call (.Name "range" p2) [a, b] [] lpos] [] pos) (dRgL2 f fb) := by
  refine .of (pe_listRg ft.calm hg hm (prg_2 hg2 hm2 h.set.pe h2.set.pe na na2 hp) nb) fun F pa s σ T H Q x s' j hf q => ?_
  unfold dRgL2 at hf
  split at hf
  · rename_i n s1 h1
    split at hf
    · rename_i m s2 h3
      split at hf
      · rename_i hc
        cases hf
        refine ⟨F, pa, s, T, _, _, j, h1, fun F1 pa1 v H1 j1 => ?_⟩
        refine ⟨F1, pa1, s1, _, _, _, j1, h3, fun F2 pa2 u H2 j2 => ?_⟩
        have tv : B.Rep F2 (.int n) v := j2.tmp (.fz (.int n), v) (List.mem_cons_of_mem _ List.mem_cons_self)
        have tu : B.Rep F2 (.int m) u := j2.tmp (.fz (.int m), u) List.mem_cons_self
        cases tv
        cases tu
        exact ⟨n, m, rfl, rfl, okRg_of hc, fun l hl => q _ _ _ _ (j2.pop2.made hl (.lst (range_rep n m)))⟩
      · cases hf
    · cases hf
  · cases hf
/-! ### d.get(k), d.get(k, z) -/
def opGet : OpN
  | [.dict ps, kd] => if kOk kd && kind ps kd then some (.fz ((dlook ps kd).getD .none)) else none
  | [.dict ps, kd, z] => if kOk kd && kind ps kd then (match z with
    | .list _ => none
    | .dict _ => none
    | z => some (.fz ((dlook ps kd).getD z))) else none
  | _ => none
def rGetD (P : Program) (w : World) (K : PySem.W.Frag) : V → List V → Hp → VK → Prop := fun x vs H Q => ∃ a y o, x = .ref a ∧ NGet P w K H a y o ∧ ((vs = [y] ∧ Q (o.getD .non) H) ∨ ∃ z, vs = [y, z] ∧ Q (o.getD z) H)
theorem mt_getD (hu : X.A.units + 64 < cLine) : MtR X "dict.get" (rGetD X.prog X.w X.K) := by
  intro pins s σ H x vs v us Q I rx rv h
  obtain ⟨a, y, o, rfl, g, h⟩ := h
  cases rx
  rcases h with ⟨rfl, q⟩ | ⟨z, rfl, q⟩
  · obtain ⟨u, rfl, ru⟩ := rv.one
    exact n_get1 hu I g ru fun w' s' I' rw' => ⟨_, H, I', rw', q⟩
  · cases rv with
    | cons ru rr => cases rr with
      | cons rz rr2 =>
        cases rr2
        exact n_get2 hu I g ru rz fun w' s' I' rw' => ⟨_, H, I', rw', q⟩
theorem get_ok (ft : Fit B X k) : MetOk B X "dict.get" opGet := by
  refine ⟨_, mt_getD ft.room.r.units, fun F pa s σ T H Q d v ds vs z j td ts h q => ?_⟩
  rw [ft.p, ft.w, ft.kk]
  unfold opGet at h
  split at h
  · rename_i ps kd e
    cases e
    split at h
    · rename_i hc
      cases h
      rw [Bool.and_eq_true] at hc
      obtain ⟨y, rfl, ty⟩ := tops1 ts
      obtain ⟨a, r, e1, g, l1, l2⟩ := top_get j.sub td (ty.rep j.sub) hc.1 hc.2
      refine ⟨a, y, r, e1, g, .inl ⟨rfl, ?_⟩⟩
      cases hl : dlook ps kd with
      | none => rw [hl] at q; rw [l2 hl]; exact q F _ H (j.pushFz .non)
      | some d =>
        obtain ⟨v', e2, rv⟩ := l1 d hl
        rw [hl] at q
        rw [e2]; exact q F _ H (j.pushFz rv)
    · cases h
  · rename_i ps kd zd e
    cases e
    split at h
    · rename_i hc
      rw [Bool.and_eq_true] at hc
      obtain ⟨y, zv, rfl, ty, tz⟩ := tops2 ts
      obtain ⟨a, r, e1, g, l1, l2⟩ := top_get j.sub td (ty.rep j.sub) hc.1 hc.2
      have key : ∀ {z}, z = Vl.fz ((dlook ps kd).getD zd) → (B.Rep F zd zv) → (∀ F' u H', J B F' pa s σ ((z, u) :: T) H' → Q u H') → Q (r.getD zv) H := fun {z} ez rz q => by
        subst ez
        cases hl : dlook ps kd with
        | none => rw [hl] at q; rw [l2 hl]; exact q F _ H (j.pushFz rz)
        | some d =>
          obtain ⟨v', e2, rv⟩ := l1 d hl
          rw [hl] at q
          rw [e2]; exact q F _ H (j.pushFz rv)
      refine ⟨a, y, r, e1, g, .inr ⟨zv, rfl, ?_⟩⟩
      split at h
      · cases h
      · cases h
      · rename_i n1 n2
        cases h
        refine key rfl ?_ q
        cases tz with
        | non => exact .non
        | bl b => exact .bl b
        | int b => exact .int b
        | str b => exact .str b
        | tup e r => exact .tup e r
        | lst e r => exact absurd rfl (n1 _)
        | dK e r => exact absurd rfl (n2 _)
        | dN e n r => exact absurd rfl (n2 _)
    · cases h
  · cases h
/-! ### short forms -/
theorem ev_v (i : Nat) {x : Str} (hN : X.N[i]? = some x := by rfl) (hv : Vis X.env.scope x := by first | exact Or.inl rfl | exact Or.inr (Or.inl rfl) | exact Or.inr (Or.inr rfl)) (hd : (x == ("__debug__" : Str)) = false := by decide)
    (hcd : (x == ("__classdict__" : Str)) = false := by decide) : EV B X (.Name x pos) (dVar i) := ev_var hN hv hd hcd
theorem eg_n (i : Nat) {x : Str} (hN : X.N.Nodup) (hi : X.N[i]? = some x := by rfl) (hx : Loc X.env.scope x := by first | exact Or.inl rfl | exact Or.inr rfl) (hf : X.fn x = true ∨ X.env.scope.names.lookup x = some .local := by first | exact .inl rfl | exact .inr rfl) : EG B X [i] (.Name x pos) (gVar i) := eg_name hN hi hx hf
theorem KB.of {K : PySem.W.Frag} {x qual : Str} {st : Stmt} {f : Addr} {fd : FuncData} {ps ks : List Str} {n : Nat} {ord : List Nat} (Fn : Fun K x qual st f fd)
    (h : ∀ (kV doc pm : Value) (an : Option Addr) (cdv ct : Value) (us ws : List Value), us.length = n → ws.length = ks.length → bindArgs (PySem.W.fnOf x qual (defArgs st) (defBody st) (defScope st) .none kV doc pm an cdv ct) ⟨us, ks.zip ws⟩ = pure (ps.zip (sel .none ord (us ++ ws)))) : KB K fd ps n ks ord := by
  obtain ⟨oc, od, kV, doc, pm, an, cdv, ct, osl, rfl, lk, hcd⟩ := Fn.ex
  intro s us ws _ h1 h2
  exact .of_eq (h kV doc pm an cdv ct us ws h1 h2)
theorem Fit.blk {B : Bs} {X : Cx} {k : Nat} (ft : Fit B X k) {s : Shared} {H : Hp} {scope : Scope} {env : Env} {fp : List Addr} : Fit B (X.blk s H scope env fp) k := ⟨ft.p, ft.w, ft.kk, ft.room, ft.calm⟩
theorem et_dval {B : Bs} {X : Cx} {e : Expr} {f : DT} (h : EV B X e (dVal f)) (he : ∀ whole, isTrue e X.env whole = (do let v ← whole; standAt e.pos; holding [v] (truthy v)) := by intro _; rfl) : ET B X e f := by
  refine (et_val h he).imp fun s r hr => ?_
  obtain ⟨b, s1⟩ := r
  show asB (dVal f s) = _
  unfold dVal
  rw [hr]
  rfl
end
end Rg
/-! Rg, part Zd: typed data, folds for loops. -/
namespace Rg
open PySem L2
/-! ### data -/
def tI (r : List Int) : PyData := .tuple (r.map .int)
def lI (r : List Int) : PyData := .list (r.map .int)
theorem deqs_ints : ∀ a b : List Int, deqs (a.map .int) (b.map .int) = decide (a = b)
  | [], [] => by simp [deqs]
  | [], b :: bs => by simp [deqs]
  | a :: as, [] => by simp [deqs]
  | a :: as, b :: bs => by
    rw [List.map_cons, List.map_cons, deqs, deqs_ints as bs, deq]
    by_cases h : a = b
    · subst h; by_cases h2 : as = bs <;> simp [h2]
    · simp [h]
theorem deq_tI (a b : List Int) : deq (tI a) (tI b) = decide (a = b) := by
  unfold tI
  rw [deq]
  exact deqs_ints a b
theorem keyOks_ints : ∀ r : List Int, keyOks (r.map .int) = true
  | [] => rfl
  | a :: as => by rw [List.map_cons, keyOks, keyOk, keyOks_ints as]; rfl
theorem depth_ints : ∀ r : List Int, PyData.depthAll (r.map .int) ≤ 1
  | [] => by rw [List.map_nil, PyData.depthAll]; omega
  | a :: as => by
    have := depth_ints as
    rw [List.map_cons, PyData.depthAll, PyData.depth]
    omega
theorem kOk_tI (r : List Int) : kOk (tI r) = true := by
  unfold kOk tI
  rw [keyOk, keyOks_ints, PyData.depth]
  have := depth_ints r
  simp
  omega
/-! ### dicts -/
def alook {α β : Type} [DecidableEq α] : List (α × β) → α → Option β
  | [], _ => none
  | (a, b) :: r, k => if a = k then some b else alook r k
def ahas {α β : Type} [DecidableEq α] : List (α × β) → α → Bool
  | [], _ => false
  | (a, _) :: r, k => if a = k then true else ahas r k
def arep {α β : Type} [DecidableEq α] (k : α) (v : β) : List (α × β) → List (α × β)
  | [] => []
  | (a, b) :: r => if a = k then (a, v) :: arep k v r else (a, b) :: arep k v r
def aput {α β : Type} [DecidableEq α] (ps : List (α × β)) (k : α) (v : β) : List (α × β) := if ahas ps k then arep k v ps else ps ++ [(k, v)]
def encD {α β : Type} (ke : α → PyData) (ve : β → PyData) (ps : List (α × β)) : List (PyData × PyData) := ps.map fun p => (ke p.1, ve p.2)
section
variable {α β : Type} [DecidableEq α] {ke : α → PyData} {ve : β → PyData}
abbrev KInj (ke : α → PyData) : Prop := ∀ a b, deq (ke a) (ke b) = decide (a = b)
theorem dlook_enc (hk : KInj ke) : ∀ (ps : List (α × β)) (k : α), dlook (encD ke ve ps) (ke k) = (alook ps k).map ve
  | [], k => rfl
  | (a, b) :: r, k => by
    show (if deq (ke a) (ke k) then some (ve b) else dlook (encD ke ve r) (ke k)) = _
    rw [hk, dlook_enc hk r k, alook]
    by_cases h : a = k <;> simp [h]
theorem dany_enc (hk : KInj ke) : ∀ (ps : List (α × β)) (k : α), (encD ke ve ps).any (fun p => deq p.1 (ke k)) = ahas ps k
  | [], k => rfl
  | (a, b) :: r, k => by
    show (deq (ke a) (ke k) || (encD ke ve r).any _) = _
    rw [hk, dany_enc hk r k, ahas]
    by_cases h : a = k <;> simp [h]
theorem drep_enc (hk : KInj ke) (k : α) (v : β) : ∀ (ps : List (α × β)), (encD ke ve ps).map (fun p => if deq p.1 (ke k) then (p.1, ve v) else p) = encD ke ve (arep k v ps)
  | [] => rfl
  | (a, b) :: r => by
    show (if deq (ke a) (ke k) then (ke a, ve v) else (ke a, ve b)) :: (encD ke ve r).map _ = _
    rw [hk, drep_enc hk k v r, arep]
    by_cases h : a = k <;> simp [h, encD]
theorem dput_enc (hk : KInj ke) (ps : List (α × β)) (k : α) (v : β) : dput (encD ke ve ps) (ke k) (ve v) = encD ke ve (aput ps k v) := by
  unfold dput aput
  rw [dany_enc hk, drep_enc hk]
  by_cases h : ahas ps k
  · rw [if_pos h, if_pos h]
  · rw [if_neg h, if_neg h]
    simp [encD]
theorem kind_enc (ht : ∀ a b : α, isTup (ke a) = isTup (ke b)) (ps : List (α × β)) (k : α) : kind (encD ke ve ps) (ke k) = true := by
  cases ps with
  | nil => rfl
  | cons p r =>
    show (isTup (ke p.1) == isTup (ke k)) = true
    rw [ht p.1 k]; simp
theorem ahas_look (ps : List (α × β)) (k : α) : ahas ps k = (alook ps k).isSome := by
  induction ps with
  | nil => rfl
  | cons p r ih => obtain ⟨a, b⟩ := p; rw [ahas, alook, ih]; by_cases h : a = k <;> simp [h]
end
/-! ### slices -/
theorem cut_to (ds : List PyData) (k : Nat) : cut ds none (some (k : Int)) = ds.take k := by
  unfold cut
  rw [HT.sIx_nat, HT.sIx_none, List.drop_zero, Nat.sub_zero]
  by_cases h : k ≤ ds.length
  · rw [Nat.min_eq_left h]
  · rw [Nat.min_eq_right (by omega), List.take_of_length_le (Nat.le_refl _), List.take_of_length_le (by omega)]
theorem cut_from (ds : List PyData) (k : Nat) : cut ds (some (k : Int)) none = ds.drop k := by
  unfold cut
  rw [HT.sIx_nat, HT.sIx_none]
  by_cases h : k ≤ ds.length
  · rw [Nat.min_eq_left h, List.take_of_length_le (by rw [List.length_drop]; omega)]
  · rw [Nat.min_eq_right (by omega), List.drop_of_length_le (Nat.le_refl _), List.drop_of_length_le (by omega), List.take_nil]
theorem cut_both (ds : List PyData) (a b : Nat) : cut ds (some (a : Int)) (some (b : Int)) = (ds.drop a).take (b - a) := by
  unfold cut
  rw [HT.sIx_nat, HT.sIx_nat]
  by_cases h : a ≤ ds.length
  · rw [Nat.min_eq_left h]
    by_cases h2 : b ≤ ds.length
    · rw [Nat.min_eq_left h2]
    · rw [Nat.min_eq_right (by omega), List.take_of_length_le (by rw [List.length_drop]; omega), List.take_of_length_le (by rw [List.length_drop]; omega)]
  · rw [Nat.min_eq_right (b := ds.length) (a := a) (by omega), List.drop_of_length_le (Nat.le_refl _), List.drop_of_length_le (by omega), List.take_nil, List.take_nil]
theorem cut_whole (ds : List PyData) : cut ds none none = ds := by
  unfold cut
  rw [HT.sIx_none, HT.sIx_none, List.drop_zero, Nat.sub_zero, List.take_of_length_le (Nat.le_refl _)]
theorem rangeD0 (n : Nat) : rangeD 0 1 n = (List.range n).map fun i : Nat => .int (i : Int) := by
  unfold rangeD
  refine List.map_congr_left fun i _ => ?_
  rw [show (0 : Int) + (i : Nat) * 1 = i by omega]
theorem rangeDn (a n : Nat) : rangeD (a : Int) 1 n = (List.range' a n).map fun i : Nat => .int (i : Int) := by
  unfold rangeD
  rw [List.range'_eq_map_range, List.map_map]
  refine List.map_congr_left fun i _ => ?_
  show PyData.int ((a : Int) + (i : Nat) * 1) = .int ((a + i : Nat) : Int)
  rw [show (a : Int) + (i : Nat) * 1 = ((a + i : Nat) : Int) by omega]
/-! ### loops -/
theorem seq_nx {f g : DS} {s s' : S} (h : f s = some (.nx, s')) : dSeq f g s = g s' := by unfold dSeq; rw [h]
theorem seq_rt {f g : DS} {s s' : S} {x : Vl} (h : f s = some (.rt x, s')) : dSeq f g s = some (.rt x, s') := by unfold dSeq; rw [h]
theorem forL_foldN {α β ι : Type} {pg : DG} {b : DS} {enc : β → PyData} {E : α → ι → S} {g : α → β → α} {I : Nat → α → Prop} {K : ι → Prop} : ∀ (l : List β) (k : Nat) {a : α} {j : ι}, I k a → K j →
    (∀ i a j x, l[i]? = some x → I (k + i) a → K j → ∃ s1 j', pg (.fz (enc x)) (E a j) = some s1 ∧ b s1 = some (.nx, E (g a x) j') ∧ I (k + i + 1) (g a x) ∧ K j') →
    ∃ j', dForL pg b (l.map enc) (E a j) = some (.nx, E (l.foldl g a) j') ∧ I (k + l.length) (l.foldl g a) ∧ K j'
  | [], k, a, j, ha, hj, h => ⟨j, rfl, ha, hj⟩
  | x :: l, k, a, j, ha, hj, h => by
    obtain ⟨s1, j1, h1, h2, h3, h4⟩ := h 0 a j x rfl ha hj
    obtain ⟨j2, h5, h6, h7⟩ := forL_foldN l (k + 1) h3 h4 fun i a j y hy h8 h9 => by
      have := h (i + 1) a j y (by simpa using hy) (by rw [show k + (i + 1) = k + 1 + i by omega]; exact h8) h9
      rw [show k + (i + 1) = k + 1 + i by omega] at this
      exact this
    refine ⟨j2, ?_, by rw [List.length_cons, show k + (l.length + 1) = k + 1 + l.length by omega]; exact h6, h7⟩
    rw [List.map_cons]
    unfold dForL
    rw [h1]
    dsimp only
    rw [h2]
    exact h5
theorem forL_fold {α β ι : Type} {pg : DG} {b : DS} {enc : β → PyData} {E : α → ι → S} {g : α → β → α} {I : Nat → α → Prop} {K : ι → Prop} (l : List β) {a : α} {j : ι} (ha : I 0 a) (hj : K j)
    (h : ∀ i a j x, l[i]? = some x → I i a → K j → ∃ s1 j', pg (.fz (enc x)) (E a j) = some s1 ∧ b s1 = some (.nx, E (g a x) j') ∧ I (i + 1) (g a x) ∧ K j') :
    ∃ j', dForL pg b (l.map enc) (E a j) = some (.nx, E (l.foldl g a) j') ∧ I l.length (l.foldl g a) ∧ K j' := by
  have := forL_foldN (pg := pg) (b := b) (enc := enc) (E := E) (g := g) (I := I) (K := K) l 0 ha hj fun i a j x => by rw [Nat.zero_add]; exact h i a j x
  rw [Nat.zero_add] at this
  exact this
/-- a loop whose body may return -/
def foldR {α β : Type} (g : α → β → Sum α Vl) : α → List β → Sum α Vl
  | a, [] => .inl a
  | a, x :: l => match g a x with
    | .inl a' => foldR g a' l
    | .inr v => .inr v
theorem lcL_map {β : Type} {p : DG} {tt : DT} {te : DE} {vs : List Nat} {enc : β → PyData} {t : β → Bool} {f : β → PyData} {s : S} : ∀ (l : List β),
    (∀ x ∈ l, ∃ s1 s2, p (.fz (enc x)) s = some s1 ∧ tt s1 = some (t x, s2) ∧ (t x = false → s2.clear vs = s) ∧ (t x = true → ∃ y s3 s4, te s2 = some (y, s3) ∧ frz s3 y = some (f x, s4) ∧ s4.clear vs = s)) →
    dLcL p tt te vs (l.map enc) s = some ((l.filter t).map f, s)
  | [], h => rfl
  | x :: l, h => by
    obtain ⟨s1, s2, h1, h2, h3, h4⟩ := h x List.mem_cons_self
    have ih := lcL_map l fun y hy => h y (List.mem_cons_of_mem _ hy)
    rw [List.map_cons]
    unfold dLcL
    rw [h1]
    dsimp only
    rw [h2]
    cases ht : t x with
    | false =>
      dsimp only
      rw [h3 ht, ih, List.filter_cons_of_neg (by simp [ht])]
    | true =>
      obtain ⟨y, s3, s4, h5, h6, h7⟩ := h4 ht
      dsimp only
      rw [h5]
      dsimp only
      rw [h6]
      dsimp only
      rw [h7, ih, List.filter_cons_of_pos (by simp [ht])]
      rfl
theorem filter_yes {β : Type} (l : List β) : l.filter (fun _ => true) = l := by simp
theorem opNe_ii (a b : Int) : opNe (.int a) (.int b) = some (.fz (.bool (!decide (a = b)))) := by
  unfold opNe
  rw [if_pos (by rfl)]
  simp only [PyData.eqv]
  by_cases h : a = b <;> simp [h]
theorem opEq_ii (a b : Int) : opEq (.int a) (.int b) = some (.fz (.bool (decide (a = b)))) := by
  unfold opEq
  rw [if_pos (by rfl)]
  simp only [PyData.eqv]
  by_cases h : a = b <;> simp [h]
end Rg
/-! Rg, part Ze: sum(d.values()), list(d.values()) of a dict whose keys are tuples. -/
namespace Rg
open PySem L2 PyProof.Rows
section
variable {P : Program} {w : World} {K : PySem.W.Frag} {X : Cx} {e : Expr} {te : TE} {apos cpos pos p0 : Pos}
def tValsN (P : Program) (w : World) (t : TE) : TE := fun σ H Q => t σ H fun x H1 => ∃ a xs n, x = .ref a ∧ H1 a = some (dN P w a xs n) ∧ ∀ p, H1 p = none → Q (.ref p) (upd H1 p (viewO "dict_values" p a))
theorem pe_valsN (he : PE X e te) (hbase : attributeBase e "values" X.env (eval e X.env) = eval e X.env := by rfl) (hline : (apos.endLine == cpos.line) = true := by rfl) :
    PE X (.Call (.Attribute e "values" apos) [] [] cpos) (tValsN X.prog X.w te) := by
  refine ⟨fun pins s σ H Q I h => ?_⟩
  refine wpAny_Call_method (T := "dict") (id := "dict.values") hbase rfl hline F.plainAttrs_dict F.slot_dict_values F.type_dict_values (thn (he.run pins s σ H _ I h) fun u s1 ⟨x, H1, I1, rx, d, xs, n, ex, hd, q⟩ => ?_)
  subst ex
  obtain rfl : u = Value.ref d := rx
  obtain ⟨hs, _, es, hr, hsz, hx⟩ := raw_of I1.hok hd
  have hr' := hr
  obtain ⟨o, ho, hc, hdt⟩ := hr'
  refine ⟨hr.typeIs, fun a e => by cases e; exact ⟨o, ho, hc.2.1⟩, ?_⟩
  show wpAny _ _ (callWith cpos (.builtin "dict.values") [.ref d] [] []) _ X.xe s1
  refine method_meetsIn F.slot_dict_values F.entry_dict_values rfl (PySem.evalArgs_none ⟨rfl, hr.typeIs, F.args_dict_values_1 _, _, meets_dict_values_raw d hs, ⟨es, n, hr⟩, ?_⟩)
  exact ⟨.ref s1.heap.objs.size, _, I1.laid (t' := s1.toks) (fun b o q => Heap.get?_push_of_some _ q) (Nat.le_refl _) (viewO_ok (Heap.get?_push_size _ rfl)), rfl, q _ (I1.hok.fresh (Nat.le_refl _))⟩
/-- the values of such a dict, as a view shows them -/
def ValsAt (P : Program) (w : World) (H : Hp) (p : Addr) (vals : List V) : Prop := ∃ a xs n, H p = some (viewO "dict_values" p a) ∧ H a = some (dN P w a xs n) ∧ vals.length = xs.length ∧ ∀ (i : Nat) (v : V) (y : NestedKey × Addr × Value), vals[i]? = some v → xs[i]? = some y → RelV v y.2.2
theorem kdl_of {pins : List (Addr × Obj)} {σ : L2.St} {H : Hp} {s : Shared} {p : Addr} {vals : List V} (I : Inv X pins σ H s) (h : ValsAt X.prog X.w H p vals) :
    ∃ a es n, PySem.W.KdlSrc X.prog X.w "dict_values" p a es.size (fun i v => ∃ hi : i < es.size, v = es[i].val) (fun h => h.IsValuesView p a ∧ h.DictRaw a es n) ∧ (s.heap.IsValuesView p a ∧ s.heap.DictRaw a es n) ∧ es.size = vals.length ∧ es.size ≤ sizeLine ∧ ∀ i (hi : i < es.size) v, vals[i]? = some v → RelV v es[i].val := by
  obtain ⟨a, xs, n, h1, h2, h3, h4⟩ := h
  obtain ⟨hs, hz, es, hr, hsz, hx⟩ := raw_of I.hok h2
  have hv : s.heap.get? p = some (DSub.viewOb "dict_values" a) := (show ObjOk X.prog X.w H s.heap p (viewO "dict_values" p a) from I.hok p _ h1).1
  refine ⟨a, es, n, KdlSrc.rawValues, ⟨⟨_, hv, rfl, rfl⟩, hr⟩, hsz.trans h3.symm, by rw [hsz]; exact hz, fun i hi v hv => ?_⟩
  obtain ⟨y, k1, k2, k3⟩ := hx i hi
  rw [k3]
  exact h4 i v y hv k1
theorem vals_of : ∀ {vs : List V} {us : List Value}, vs.length = us.length → (∀ (i : Nat) (v : V) (u : Value), vs[i]? = some v → us[i]? = some u → RelV v u) → Vals vs us
  | [], [], _, _ => .nil
  | [], _ :: _, h, _ => by cases h
  | _ :: _, [], h, _ => by cases h
  | v :: vs, u :: us, h, k => .cons (k 0 v u rfl rfl) (vals_of (by simpa using h) fun i v u e e' => k (i + 1) v u (by simpa using e) (by simpa using e'))
def rListV (P : Program) (w : World) : List V → Hp → VK → Prop := fun vs H Q => ∃ p vals, vs = [.ref p] ∧ ValsAt P w H p vals ∧ ∀ l, H l = none → Q (.ref l) (upd H l (.lst vals))
theorem cr_listV (hc : X.calm = true) : CallR X (.type "list") (rListV X.prog X.w) := by
  intro pins s σ H xs us Q I rx h
  obtain ⟨p, vals, rfl, hv, q⟩ := h
  rw [Vals.ref1 rx]
  obtain ⟨a, es, n, K, ok, e1, e2, e3⟩ := kdl_of I hv
  refine PySem.W.kdl_call K (I.ok.hd hc) ok e2 fun h' tk acc' c' hk hD hacc => ?_
  refine ⟨.ref _, _, I.laid (t' := tk) hk (Nat.le_refl _) (o := .lst vals) ?_, rfl, q _ (I.hok.fresh (Nat.le_refl _))⟩
  have hl : acc'.size = vals.length := hacc.1.trans e1
  refine ⟨by rw [← e1]; exact e2, acc'.toList, c', ?_, by rw [Array.toArray_toList]; exact hD⟩
  refine vals_of (by rw [Array.length_toList]; exact hl.symm) fun i v u h1 h2 => ?_
  rw [Array.getElem?_toList] at h2
  obtain ⟨hi, rfl⟩ := hacc.2 i u h2
  exact e3 i hi v h1
def rSumV (P : Program) (w : World) : List V → Hp → VK → Prop := fun vs H Q => ∃ (p : Addr) (ns : List Int), vs = [.ref p] ∧ ValsAt P w H p (ns.map V.int) ∧ Q (.int ns.sum) H
theorem preSum_getD (ns : List Int) : preSum (fun i => ns.getD i 0) ns.length = ns.sum := by
  have key : ∀ (l pre : List Int), preSum (fun i => (pre ++ l).getD i 0) (pre.length + l.length) = preSum (fun i => (pre ++ l).getD i 0) pre.length + l.sum := by
    intro l
    induction l with
    | nil => intro pre; simp
    | cons a l ih =>
      intro pre
      have h := ih (pre ++ [a])
      rw [List.append_assoc, List.singleton_append, List.length_append, List.length_singleton] at h
      rw [show pre.length + (a :: l).length = pre.length + 1 + l.length by rw [List.length_cons]; omega, h, List.sum_cons]
      have : preSum (fun i => (pre ++ a :: l).getD i 0) (pre.length + 1) = preSum (fun i => (pre ++ a :: l).getD i 0) pre.length + a := by
        rw [preSum]
        congr 1
        simp
      rw [this]
      omega
  have := key ns []
  simpa [preSum] using this
theorem cr_sumV (hc : X.calm = true) : CallR X (.builtin "sum") (rSumV X.prog X.w) := by
  intro pins s σ H xs us Q I rx h
  obtain ⟨p, ns, rfl, hv, q⟩ := h
  rw [Vals.ref1 rx]
  obtain ⟨a, es, n, K, ok, e1, e2, e3⟩ := kdl_of I hv
  rw [List.length_map] at e1
  obtain ⟨oI, St, hit, W, hst⟩ := K.iter X.A.in1 s (I.ok.hd hc) ok
  have hlt := K.there _ ok
  refine call_sum_walkG (hit _ _ ?_)
  refine ⟨_, _, _, _, _, _, fun i => ns.getD i 0, rfl, W, hst, fun b hb => ?_, fun i v hv => ?_, fun h' tk t' hk => ?_⟩
  · show b < (s.heap.push _).objs.size
    rw [Heap.size_push]
    rcases List.mem_cons.mp hb with rfl | hb
    · exact Nat.lt_succ_self _
    · rcases List.mem_cons.mp hb with rfl | hb
      · exact Nat.lt_succ_of_lt hlt.2
      · cases hb
  · obtain ⟨hi, rfl⟩ := hv
    have hi2 : i < ns.length := e1 ▸ hi
    have r := e3 i hi (V.int ns[i]) (by rw [List.getElem?_map, List.getElem?_eq_getElem hi2]; rfl)
    have e4 : ns.getD i 0 = ns[i] := by rw [List.getD_eq_getElem?_getD, List.getElem?_eq_getElem hi2]; rfl
    show ∃ t, _ = Value.int (ns.getD i 0) t
    rw [e4]
    exact r
  · refine ⟨.int _, H, I.kept fun b o eo => hk b o (fun hmem => ?_) (Heap.get?_push_of_some _ eo), ⟨t', rfl⟩, ?_⟩
    · rcases List.mem_cons.mp hmem with e1 | hmem
      · exact absurd (e1 ▸ Heap.lt_size eo) (Nat.lt_irrefl _)
      · cases hmem
    · rw [e1, preSum_getD]
      exact q
end
section
variable {B : Bs} {X : Cx} {k : Nat} {e : Expr} {f : DE} {apos cpos pos p0 : Pos}
/-- e.values() as an argument -/
def dVals (f : DE) : S → Option (List PyData × S) := fun s => match dSet f s with
  | some (x, s1) => match cont s1 x with
    | some (.dict ps) => if isTD ps then some (ps.map (·.2), s1) else none
    | _ => none
  | none => none
def dSumV (f : DE) : DE := fun s => match dVals f s with
  | some (ds, s1) => (intsOf ds).map fun ns => (.fz (.int ns.sum), s1)
  | none => none
def dListV (f : DE) : DE := fun s => match dVals f s with
  | some (ds, s1) => some (.fr (.list ds), s1)
  | none => none
theorem vals_rep {P : Program} {w : World} {K : PySem.W.Frag} {F : Hp} : ∀ {ps : List (PyData × PyData)} {xs : List (NestedKey × Addr × Value)}, RepN P w K F ps xs →
    ∃ vals : List V, RepAll P w K F (ps.map (·.2)) vals ∧ vals.length = xs.length ∧ ∀ (i : Nat) (v : V) (y : NestedKey × Addr × Value), vals[i]? = some v → xs[i]? = some y → RelV v y.2.2
  | _, _, .nil => ⟨[], .nil, rfl, fun i v y h => by simp at h⟩
  | _, _, .cons ho hk hd hka hr hv hrest => by
    obtain ⟨vals, g1, g2, g3⟩ := vals_rep hrest
    refine ⟨_ :: vals, .cons hv g1, by rw [List.length_cons, List.length_cons, g2], fun i v y h h' => ?_⟩
    cases i with
    | zero => cases h; cases h'; exact hr
    | succ i => exact g3 i v y (by simpa using h) (by simpa using h')
theorem top_dN {P : Program} {w : World} {K : PySem.W.Frag} {F H : Hp} {ps : List (PyData × PyData)} {v : V} (h : isTD ps = true) (r : Rg.Top P w K F H (.dict ps) v) : ∃ a xs n, v = .ref a ∧ H a = some (dN P w a xs n) ∧ RepN P w K F ps xs := by
  cases r with
  | dK e r =>
    cases r with
    | nil => cases h
    | cons e1 _ _ => have h2 : isTup _ = true := h; rw [keyK_notTup e1] at h2; cases h2
  | dN e _ r => exact ⟨_, _, _, rfl, e, r⟩
theorem vals_read {F pa s σ T H ds s'} (ft : Fit B X k) (j : J B F pa s σ T H) (hf : dVals f s = some (ds, s')) {Q : VK} (q : ∀ F' pa' p H' (vals : List V), J B F' pa' s' σ T H' → RepAll B.P B.w B.K F' ds vals → ValsAt X.prog X.w H' p vals → Q (.ref p) H') :
    tValsN X.prog X.w (tD B (dSet f)) σ H Q := by
  unfold dVals at hf
  split at hf
  · rename_i x s1 h1
    split at hf
    · rename_i ps h2
      split at hf
      · rename_i hn
        cases hf
        refine ⟨F, pa, s, T, x, _, j, h1, fun F1 pa1 v H1 j1 => ?_⟩
        have r := TOk.top j1 (j1.tmp _ List.mem_cons_self) h2
        obtain ⟨a, xs, n, e1, e2, rn⟩ := top_dN hn r
        refine ⟨a, xs, n, e1, (by rw [ft.p, ft.w]; exact e2), fun p hp => ?_⟩
        have j2 := j1.pop.junk hp (viewO "dict_values" p a)
        have sub : Same H1 (upd H1 p (viewO "dict_values" p a)) := fun b o e => by
          by_cases hb : b = p
          · subst hb; rw [hp] at e; cases e
          · rw [upd_ne hb]; exact e
        have hv := vals_rep rn
        obtain ⟨vals, g1, g2, g3⟩ := hv
        refine q F1 pa1 p _ vals j2 g1 ⟨a, xs, n, upd_same, by rw [ft.p, ft.w]; exact sub _ _ e2, g2, g3⟩
      · cases hf
    · cases hf
  · cases hf
theorem ev_sumV (ft : Fit B X k) (hg : Gl X "sum") (hm : X.mg "sum" = none) (hv : bootBuiltins "sum" = some (.builtin "sum")) (h : EV B X e f) (hbase : attributeBase e "values" X.env (eval e X.env) = eval e X.env := by rfl) (hline : (apos.endLine == cpos.line) = true := by rfl)
    (he : starEach [.Call (.Attribute e "values" apos) [] [] cpos] X.env = (false, eval (.Call (.Attribute e "values" apos) [] [] cpos) X.env) :: starEach [] X.env := by rfl) :
    EV B X (.Call (.Name "sum" p0) [.Call (.Attribute e "values" apos) [] [] cpos] [] pos) (dSumV f) := by
  refine .of (pe_callB (cr_sumV ft.calm) hg hm hv (pa_cons (pe_valsN h.set.pe hbase hline) pa_nil) (by decide) (by decide) he rfl) fun F pa s σ T H Q x s' j hf q => ?_
  unfold dSumV at hf
  split at hf
  · rename_i ds s1 h1
    obtain ⟨ns, h2, h3⟩ := Option.map_eq_some_iff.mp hf
    cases h3
    show tValsN X.prog X.w (tD B (dSet f)) σ H (fun v H1 => rSumV X.prog X.w [v] H1 Q)
    refine vals_read ft j h1 fun F' pa' p H' vals j' r va => ?_
    exact ⟨p, ns, rfl, by rw [← ints_rep h2 r]; exact va, q F' pa' _ H' (j'.pushFz (.int _))⟩
  · cases hf
theorem ev_listV (ft : Fit B X k) (hg : Gl X "list") (hm : X.mg "list" = none) (hv : bootBuiltins "list" = some (.type "list")) (h : EV B X e f) (hbase : attributeBase e "values" X.env (eval e X.env) = eval e X.env := by rfl) (hline : (apos.endLine == cpos.line) = true := by rfl)
    (he : starEach [.Call (.Attribute e "values" apos) [] [] cpos] X.env = (false, eval (.Call (.Attribute e "values" apos) [] [] cpos) X.env) :: starEach [] X.env := by rfl) :
    EV B X (.Call (.Name "list" p0) [.Call (.Attribute e "values" apos) [] [] cpos] [] pos) (dListV f) := by
  refine .of (pe_callTy (cr_listV ft.calm) hg hm hv (pa_cons (pe_valsN h.set.pe hbase hline) pa_nil) (by decide) (by decide) he rfl) fun F pa s σ T H Q x s' j hf q => ?_
  unfold dListV at hf
  split at hf
  · rename_i ds s1 h1
    cases hf
    show tValsN X.prog X.w (tD B (dSet f)) σ H (fun v H1 => rListV X.prog X.w [v] H1 Q)
    refine vals_read ft j h1 fun F' pa' p H' vals j' r va => ?_
    exact ⟨p, vals, rfl, va, fun l hl => q F' pa' _ _ (j'.made hl (.lst r))⟩
  · cases hf
end
end Rg
/-! Rg, part Zf: how pieces run, as lemmas. -/
namespace Rg
open PySem L2
theorem samePot_self' (p : Option PotSt) : samePot p p = true := by
  unfold samePot
  cases p <;> simp
theorem le_lim {n : Nat} (h : n ≤ 1000000) : n ≤ lim := Nat.le_trans h (by decide)
theorem small62_nat {n : Nat} (h : n ≤ 1000000) : small62 (n : Int) = true := by
  unfold small62
  simp
  omega
theorem var_at {i : Nat} {s : S} {d : PyData} (h : s.env[i]? = some (some (.fz d))) : dVar i s = some (.fz d, s) := by unfold dVar; rw [h]
theorem var_own {i : Nat} {s : S} {d : PyData} (h : s.env[i]? = some (some (.own d))) : dVar i s = some (.sl i, s) := by unfold dVar; rw [h]
theorem set_fr {f : DE} {s s' : S} {d : PyData} (h : f s = some (.fr d, s')) : dSet f s = some (.fz d, s') := by unfold dSet; rw [h]; rfl
theorem set_fz {f : DE} {s s' : S} {d : PyData} (h : f s = some (.fz d, s')) : dSet f s = some (.fz d, s') := by unfold dSet; rw [h]; rfl
theorem one_arg {f : DE} {s s' : S} {x : Vl} (h : dSet f s = some (x, s')) : dCons f dNil s = some ([x], s') := by unfold dCons; rw [h]; rfl
theorem cons_of {f : DE} {g : DEs} {s s1 s2 : S} {x : Vl} {xs : List Vl} (h : dSet f s = some (x, s1)) (h2 : g s1 = some (xs, s2)) : dCons f g s = some (x :: xs, s2) := by unfold dCons; rw [h]; dsimp only; rw [h2]
theorem mut_extend {i : Nat} {g : DEs} {s : S} {ds es : List PyData} (hs : s.env[i]? = some (some (.own (.list ds)))) (hg : g s = some ([.fz (.list es)], s)) (hl : ds.length + es.length ≤ lim) :
    dMut "list" opExtend (dVar i) g s = some (.fz .none, s.put i (.own (.list (ds ++ es)))) := by
  unfold dMut
  rw [var_own hs]
  dsimp only
  rw [hs]
  dsimp only
  rw [if_pos (show tyName (.list ds) = some "list" from rfl), hg]
  simp only [frzAll, Vl.isFr, Bool.false_eq_true, if_false, frz, hs, opExtend, if_pos hl, Option.map]
theorem mut_append {i : Nat} {g : DEs} {s : S} {ds : List PyData} {d : PyData} (hs : s.env[i]? = some (some (.own (.list ds)))) (hg : g s = some ([.fz d], s)) (hl : ds.length < lim) :
    dMut "list" opAppend (dVar i) g s = some (.fz .none, s.put i (.own (.list (ds ++ [d])))) := by
  unfold dMut
  rw [var_own hs]
  dsimp only
  rw [hs]
  dsimp only
  rw [if_pos (show tyName (.list ds) = some "list" from rfl), hg]
  simp only [frzAll, Vl.isFr, Bool.false_eq_true, if_false, frz, hs, opAppend, if_pos hl, Option.map]
theorem callF_of {D : DF} {n m : Nat} {ord : List Nat} {g gk : DEs} {s s1 s2 : S} {xs zs : List Vl} {as : List Ar} {r : Vl} {st : Option PotSt} (hg : g s = some (xs, s1)) (hk : gk s1 = some (zs, s2)) (hl : xs.length = n ∧ zs.length = m ∧ ord.all (· < n + m) = true)
    (ha : arsOf s2 (sel (.ob (.lst [])) ord (xs ++ zs)) = some as) (hD : D as s2.pot = some (r, st)) (hkeep : keepsOwn (sel (.ob (.lst [])) ord (xs ++ zs)) r = true) : dCallF D n m ord g gk s = some (r, { s2 with pot := st }) := by
  unfold dCallF
  rw [hg]
  dsimp only
  rw [hk]
  dsimp only
  rw [if_pos hl]
  unfold callS
  rw [ha]
  dsimp only
  rw [hD]
  dsimp only
  rw [if_pos hkeep]
theorem op_of {op : Op2} {fa fb : DE} {s s1 s2 : S} {x y : Vl} {dx dy : PyData} {z : Vl} (ha : dSet fa s = some (x, s1)) (hb : dSet fb s1 = some (y, s2)) (hx : cont s2 x = some dx) (hy : cont s2 y = some dy) (ho : op dx dy = some z) : dOp op fa fb s = some (z, s2) := by
  unfold dOp
  rw [ha]
  dsimp only
  rw [hb]
  dsimp only
  rw [hx, hy]
  dsimp only
  rw [ho]
  rfl
theorem if_no {c : DT} {f g : DS} {s s1 : S} {r : Option (Out × S)} (hc : c s = some (false, s1)) (h : g s1 = r) : dIfS c f g s = r := by unfold dIfS; rw [hc]; exact h
theorem if_yes {c : DT} {f g : DS} {s s1 : S} {r : Option (Out × S)} (hc : c s = some (true, s1)) (h : f s1 = r) : dIfS c f g s = r := by unfold dIfS; rw [hc]; exact h
theorem asB_of {f : Option (Vl × S)} {b : Bool} {s : S} (h : f = some (.fz (.bool b), s)) : asB f = some (b, s) := by rw [h]; rfl
theorem callB_of {op : OpN} {g : DEs} {s s1 : S} {xs : List Vl} {ds : List PyData} {z : Vl} (hg : g s = some (xs, s1)) (hc : conts s1 xs = some ds) (ho : op ds = some z) : dCallB op g s = some (z, s1) := by
  unfold dCallB
  rw [hg]
  dsimp only
  rw [hc]
  dsimp only
  rw [ho]
  rfl
theorem any_fr {f : DE} {l : List PyData} {s s' : S} (h : f s = some (.fr (.list l), s')) : dAny f s = some (l, s') := by
  unfold dAny
  rw [h]
  rfl
theorem any_fz {f : DE} {l : List PyData} {s s' : S} (h : f s = some (.fz (.list l), s')) : dAny f s = some (l, s') := by
  unfold dAny
  rw [h]
  rfl
theorem any_tup {f : DE} {l : List PyData} {s s' : S} (h : f s = some (.fz (.tuple l), s')) : dAny f s = some (l, s') := by
  unfold dAny
  rw [h]
  rfl
theorem call1 {D : DF} {f : DE} {s s1 : S} {x r : Vl} {a : Ar} {st : Option PotSt} (hf : dSet f s = some (x, s1)) (ha : arOf s1 x = some a) (hD : D [a] s1.pot = some (r, st)) (hk : keepsOwn [x] r = true) : dCallF D 1 0 [0] (dCons f dNil) dNil s = some (r, { s1 with pot := st }) :=
  callF_of (xs := [x]) (zs := []) (as := [a]) (one_arg hf) rfl ⟨rfl, rfl, rfl⟩ (show arsOf s1 [x] = some [a] by unfold arsOf; rw [ha]; rfl) hD hk
theorem call2 {D : DF} {f g : DE} {s s1 s2 : S} {x y r : Vl} {a b : Ar} {st : Option PotSt} (hf : dSet f s = some (x, s1)) (hg : dSet g s1 = some (y, s2)) (ha : arOf s2 x = some a) (hb : arOf s2 y = some b) (hD : D [a, b] s2.pot = some (r, st)) (hk : keepsOwn [x, y] r = true) : dCallF D 2 0 [0, 1] (dCons f (dCons g dNil)) dNil s = some (r, { s2 with pot := st }) :=
  callF_of (xs := [x, y]) (zs := []) (as := [a, b]) (cons_of hf (one_arg hg)) rfl ⟨rfl, rfl, rfl⟩ (show arsOf s2 [x, y] = some [a, b] by unfold arsOf; rw [ha]; unfold arsOf; rw [hb]; rfl) hD hk
theorem def_fz {n np : Nat} {f : DS} {as : List Ar} {p : Option PotSt} {E E0 : List (Option Sl)} {d : PyData} (hl : as.length = np) (he : envOf n as = E0) (h : f ⟨E0, p⟩ = some (.rt (.fz d), ⟨E, p⟩)) : runDef n np f as p = some (.fz d, p) := by
  subst he
  unfold runDef
  simp [hl, h, samePot_self']
theorem def_fr {n np : Nat} {f : DS} {as : List Ar} {p : Option PotSt} {E E0 : List (Option Sl)} {d : PyData} (hl : as.length = np) (he : envOf n as = E0) (h : f ⟨E0, p⟩ = some (.rt (.fr d), ⟨E, p⟩)) : runDef n np f as p = some (.fr d, p) := by
  subst he
  unfold runDef
  simp [hl, h, samePot_self']
theorem ret_fz {g : DE} {s s' : S} {v : PyData} (h : g s = some (.fz v, s')) : dSeq (dRet g) dNop s = some (.rt (.fz v), s') := by
  simp [dSeq, dRet, h, leave]
theorem ret_fr {g : DE} {s s' : S} {v : PyData} (h : g s = some (.fr v, s')) : dSeq (dRet g) dNop s = some (.rt (.fr v), s') := by
  simp [dSeq, dRet, h, leave]
theorem asg_of {f : DE} {g : DG} {s s1 s2 s3 : S} {x y : Vl} (h : f s = some (x, s1)) (hu : unsl s1 x = some (y, s2)) (hg : g y s2 = some s3) : dAsg f g s = some (.nx, s3) := by
  unfold dAsg
  rw [h]
  dsimp only
  rw [hu]
  dsimp only
  rw [hg]
  rfl
theorem expr_nx {f : DE} {s s' : S} {x : Vl} (h : f s = some (x, s')) : dExpr f s = some (.nx, s') := by unfold dExpr; rw [h]; rfl
theorem seq_last {f : DS} {s s' : S} (h : f s = some (.nx, s')) : dSeq f dNop s = some (.nx, s') := by rw [seq_nx h]; rfl
theorem for_of {fi : DI} {pg : DG} {b : DS} {s s1 : S} {ds : List PyData} {r : Option (Out × S)} (h : fi s = some (ds, s1)) (h2 : dForL pg b ds s1 = r) : dFor fi pg b s = r := by unfold dFor; rw [h]; exact h2
theorem forL_cons {pg : DG} {b : DS} {s s1 s2 : S} {d : PyData} {ds : List PyData} (h1 : pg (.fz d) s = some s1) (h2 : b s1 = some (.nx, s2)) : dForL pg b (d :: ds) s = dForL pg b ds s2 := by
  conv => lhs; unfold dForL
  rw [h1]
  dsimp only
  rw [h2]
theorem rg1_of {f : DE} {s s' : S} {n : Nat} (h : dSet f s = some (.fz (.int (n : Int)), s')) (hn : n ≤ 1000000) : dRg1 (dCons f dNil) s = some ((List.range n).map (fun i : Nat => .int (i : Int)), s') := by
  unfold dRg1
  rw [one_arg h]
  dsimp only
  rw [if_pos (small62_nat hn), Int.toNat_natCast, rangeD0]
theorem rg2_of {f g : DE} {s s1 s2 : S} {a b : Nat} (h : dSet f s = some (.fz (.int (a : Int)), s1)) (h2 : dSet g s1 = some (.fz (.int (b : Int)), s2)) (ha : a ≤ 1000000) (hb : b ≤ 1000000) : dRg2 (dCons f (dCons g dNil)) s = some ((List.range' a (b - a)).map (fun i : Nat => .int (i : Int)), s2) := by
  have e : dCons f (dCons g dNil) s = some ([.fz (.int a), .fz (.int b)], s2) := by
    unfold dCons
    rw [h]
    dsimp only
    rw [h2]
    rfl
  unfold dRg2
  rw [e]
  dsimp only
  rw [if_pos (by rw [small62_nat ha, small62_nat hb]; rfl), show ((b : Int) - (a : Int)).toNat = b - a by omega, rangeDn]
theorem lc_of {β : Type} {fi : DI} {p : DG} {tt : DT} {te : DE} {vs : List Nat} {s s1 : S} {sv : List (Option PyData)} {l : List β} {enc : β → PyData} {t : β → Bool} {f : β → PyData} (hi : fi s = some (l.map enc, s1)) (hs : saveAt s1 vs = some sv)
    (h : ∀ x ∈ l, ∃ s2 s3, p (.fz (enc x)) (s1.clear vs) = some s2 ∧ tt s2 = some (t x, s3) ∧ (t x = false → s3.clear vs = s1.clear vs) ∧ (t x = true → ∃ y s4 s5, te s3 = some (y, s4) ∧ frz s4 y = some (f x, s5) ∧ s5.clear vs = s1.clear vs)) (hl : l.length ≤ lim) :
    dLc fi p tt te vs s = some (.fr (.list ((l.filter t).map f)), (s1.clear vs).back vs sv) := by
  unfold dLc
  rw [hi]
  dsimp only
  rw [hs]
  dsimp only
  rw [lcL_map l h]
  dsimp only
  rw [if_pos]
  rw [List.length_map, Bool.and_eq_true]
  refine ⟨decide_eq_true (Nat.le_trans (List.length_filter_le _ _) hl), decide_eq_true ?_⟩
  exact clearE_len _ _
end Rg
namespace Rg
open PySem L2
/-! ### slots that are not read, and the deck where it is not asked, do not matter -/
structure R (I : List Nat) (p q : Option PotSt) (s t : S) : Prop where
  len : s.env.length = t.env.length
  at' : ∀ j, j ∉ I → s.env[j]? = t.env[j]?
  p1 : s.pot = p
  p2 : t.pot = q
inductive OR (I : List Nat) (p q : Option PotSt) {α : Type} (G : α → Prop) : Option (α × S) → Option (α × S) → Prop
  | nn : OR I p q G none none
  | ss {a : α} {s t : S} : G a → R I p q s t → OR I p q G (some (a, s)) (some (a, t))
inductive OS (I : List Nat) (p q : Option PotSt) : Option S → Option S → Prop
  | nn : OS I p q none none
  | ss {s t : S} : R I p q s t → OS I p q (some s) (some t)
def okV (I : List Nat) (x : Vl) : Prop := ∀ n, x = .sl n → n ∉ I
def okVs (I : List Nat) (xs : List Vl) : Prop := ∀ x ∈ xs, okV I x
def Tr {α : Type} : α → Prop := fun _ => True
def RelE (I : List Nat) (p q : Option PotSt) (f : DE) : Prop := ∀ s t, R I p q s t → OR I p q (okV I) (f s) (f t)
def RelEs (I : List Nat) (p q : Option PotSt) (f : DEs) : Prop := ∀ s t, R I p q s t → OR I p q (okVs I) (f s) (f t)
def Rel {α : Type} (I : List Nat) (p q : Option PotSt) (f : S → Option (α × S)) : Prop := ∀ s t, R I p q s t → OR I p q Tr (f s) (f t)
def RelG (I : List Nat) (p q : Option PotSt) (g : DG) : Prop := ∀ x s t, okV I x → R I p q s t → OS I p q (g x s) (g x t)
def RelGs (I : List Nat) (p q : Option PotSt) (g : DGs) : Prop := ∀ xs s t, okVs I xs → R I p q s t → OS I p q (g xs s) (g xs t)
section
variable {I : List Nat} {p q : Option PotSt} {s t : S}
theorem okV.fz {d : PyData} : okV I (.fz d) := fun n h => nomatch h
theorem okV.fr {d : PyData} : okV I (.fr d) := fun n h => nomatch h
theorem okV.no {x : Vl} (h : x.isSl = false) : okV I x := fun n e => by subst e; cases h
theorem okVs.nil : okVs I [] := fun x h => nomatch h
theorem okVs.cons {x : Vl} {xs : List Vl} (h : okV I x) (h2 : okVs I xs) : okVs I (x :: xs) := fun y hy => by
  rcases List.mem_cons.mp hy with rfl | hy
  · exact h
  · exact h2 y hy
theorem okVs.fzs (ds : List PyData) : okVs I (ds.map .fz) := fun x h => by
  obtain ⟨d, _, rfl⟩ := List.mem_map.mp h
  exact .fz
theorem R.put (r : R I p q s t) (i : Nat) (x : Sl) : R I p q (s.put i x) (t.put i x) :=
  ⟨by show (s.env.set _ _).length = (t.env.set _ _).length; rw [List.length_set, List.length_set]; exact r.len, fun j hj => by
    show (s.env.set _ _)[j]? = (t.env.set _ _)[j]?
    rw [List.getElem?_set, List.getElem?_set, r.len, r.at' j hj], r.p1, r.p2⟩
theorem R.setN (r : R I p q s t) (i : Nat) : R I p q { s with env := s.env.set i none } { t with env := t.env.set i none } :=
  ⟨by show (s.env.set _ _).length = (t.env.set _ _).length; rw [List.length_set, List.length_set]; exact r.len, fun j hj => by
    show (s.env.set _ _)[j]? = (t.env.set _ _)[j]?
    rw [List.getElem?_set, List.getElem?_set, r.len, r.at' j hj], r.p1, r.p2⟩
theorem R.cont (r : R I p q s t) {x : Vl} (h : okV I x) : Rg.cont s x = Rg.cont t x := by
  cases x <;> try rfl
  rename_i n
  unfold Rg.cont
  try dsimp only
  rw [r.at' n (h n rfl)]
theorem R.conts (r : R I p q s t) : ∀ {xs : List Vl}, okVs I xs → Rg.conts s xs = Rg.conts t xs
  | [], _ => rfl
  | x :: xs, h => by
    unfold Rg.conts
    rw [r.cont (h x List.mem_cons_self), r.conts fun y hy => h y (List.mem_cons_of_mem _ hy)]
theorem R.frz (r : R I p q s t) {x : Vl} (h : okV I x) : OR I p q (Tr (α := PyData)) (Rg.frz s x) (Rg.frz t x) := by
  cases x with
  | sl n =>
    unfold Rg.frz
    try dsimp only
    rw [r.at' n (h n rfl)]
    cases t.env[n]? with
    | none => exact .nn
    | some o =>
      cases o with
      | none => exact .nn
      | some x => cases x <;> first | exact .nn | exact .ss trivial r | exact .ss trivial (r.put _ _)
  | _ => first | exact .nn | exact .ss trivial r
theorem R.frzAll : ∀ {xs : List Vl} {s t : S}, R I p q s t → okVs I xs → OR I p q (Tr (α := List PyData)) (Rg.frzAll s xs) (Rg.frzAll t xs)
  | [], _, _, r, _ => .ss trivial r
  | x :: xs, s, t, r, h => by
    unfold Rg.frzAll
    split
    · exact .nn
    · have h1 := r.frz (h x List.mem_cons_self)
      revert h1
      generalize Rg.frz s x = a
      generalize Rg.frz t x = b
      intro h1
      cases h1 with
      | nn => exact .nn
      | ss _ r1 =>
        have h2 := r1.frzAll fun y hy => h y (List.mem_cons_of_mem _ hy)
        revert h2
        try dsimp only
        generalize Rg.frzAll _ xs = a
        generalize Rg.frzAll _ xs = b
        intro h2
        cases h2 with
        | nn => exact .nn
        | ss _ r2 => exact .ss trivial r2
theorem R.unsl (r : R I p q s t) {x : Vl} (h : okV I x) : OR I p q (okV I) (Rg.unsl s x) (Rg.unsl t x) := by
  cases x with
  | sl n =>
    unfold Rg.unsl
    try dsimp only
    have h1 := r.frz h
    revert h1
    generalize Rg.frz s (.sl n) = a
    generalize Rg.frz t (.sl n) = b
    intro h1
    cases h1 with
    | nn => exact .nn
    | ss _ r1 => exact .ss .fz r1
  | _ => exact .ss h r
theorem R.leave (r : R I p q s t) {x : Vl} (h : okV I x) : OR I p q (Tr (α := Vl)) (Rg.leave s x) (Rg.leave t x) := by
  cases x with
  | sl n =>
    unfold Rg.leave
    try dsimp only
    rw [r.at' n (h n rfl)]
    cases t.env[n]? with
    | none => exact .nn
    | some o =>
      cases o with
      | none => exact .nn
      | some x => cases x <;> first | exact .nn | exact .ss trivial r | exact .ss trivial (r.setN _)
  | _ => first | exact .nn | exact .ss trivial r
theorem OR.map {α β : Type} {G : α → Prop} {G2 : β → Prop} {a b : Option (α × S)} (h : OR I p q G a b) (f : α → β) (hf : ∀ x, G x → G2 (f x)) : OR I p q G2 (a.map fun r => (f r.1, r.2)) (b.map fun r => (f r.1, r.2)) := by
  cases h with
  | nn => exact .nn
  | ss g r => exact .ss (hf _ g) r
theorem OR.inv {α : Type} {G : α → Prop} {a b : Option (α × S)} (h : OR I p q G a b) : (a = Option.none ∧ b = Option.none) ∨ ∃ x s t, a = Option.some (x, s) ∧ b = Option.some (x, t) ∧ G x ∧ R I p q s t := by
  cases h with
  | nn => exact .inl ⟨rfl, rfl⟩
  | ss g r => exact .inr ⟨_, _, _, rfl, rfl, g, r⟩
theorem OR.pure {α : Type} {G : α → Prop} (o : Option α) (r : R I p q s t) (h : ∀ x, o = some x → G x) : OR I p q G (o.map fun x => (x, s)) (o.map fun x => (x, t)) := by
  cases o with
  | none => exact .nn
  | some x => exact .ss (h x rfl) r
/-! ### expressions -/
theorem re_var {i : Nat} (h : i ∉ I := by decide) : RelE I p q (dVar i) := fun s t r => by
  unfold dVar
  rw [r.at' i h]
  cases t.env[i]? with
  | none => exact .nn
  | some o =>
    cases o with
    | none => exact .nn
    | some x =>
      cases x with
      | own d => exact .ss (fun n e => by cases e; exact h) r
      | fz d => exact .ss .fz r
      | pt => exact .ss (.no rfl) r
      | gr => exact .ss (.no rfl) r
      | _ => exact .nn
theorem re_lit {d : PyData} : RelE I p q (dLit d) := fun s t r => .ss .fz r
theorem re_set {f : DE} (h : RelE I p q f) : RelE I p q (dSet f) := fun s t r => by
  unfold dSet
  rcases (h s t r).inv with ⟨e1, e2⟩ | ⟨x, s, t, e1, e2, g, r⟩
  · rw [e1, e2]; exact .nn
  rw [e1, e2]; clear e1 e2; try dsimp only
  cases x <;> first | exact .ss .fz r | exact .ss g r
def NS2 (op : Op2) : Prop := ∀ x y z, op x y = some z → z.isSl = false
def NSN (op : OpN) : Prop := ∀ x z, op x = some z → z.isSl = false
def NS1 (op : Op1) : Prop := ∀ x z, op x = some z → z.isSl = false
theorem re_op {op : Op2} {fa fb : DE} (ho : NS2 op) (ha : RelE I p q fa) (hb : RelE I p q fb) : RelE I p q (dOp op fa fb) := fun s t r => by
  unfold dOp
  rcases (re_set ha s t r).inv with ⟨e1, e2⟩ | ⟨x, s, t, e1, e2, g, r⟩
  · rw [e1, e2]; exact .nn
  rw [e1, e2]; clear e1 e2; try dsimp only
  rcases (re_set hb s t r).inv with ⟨e1, e2⟩ | ⟨y, s, t, e1, e2, g2, r⟩
  · rw [e1, e2]; exact .nn
  rw [e1, e2]; clear e1 e2; try dsimp only
  try dsimp only
  rw [r.cont g, r.cont g2]
  cases cont t x with
  | none => exact .nn
  | some dx =>
    cases cont t y with
    | none => exact .nn
    | some dy => exact .pure _ r fun z h => .no (ho _ _ _ h)
theorem re_op1 {op : Op1} {fa : DE} (ho : NS1 op) (ha : RelE I p q fa) : RelE I p q (dOp1 op fa) := fun s t r => by
  unfold dOp1
  rcases (re_set ha s t r).inv with ⟨e1, e2⟩ | ⟨x, s, t, e1, e2, g, r⟩
  · rw [e1, e2]; exact .nn
  rw [e1, e2]; clear e1 e2; try dsimp only
  try dsimp only
  rw [r.cont g]
  cases cont t x with
  | none => exact .nn
  | some dx => exact .pure _ r fun z h => .no (ho _ _ h)
theorem rt_asB {f : DE} (h : RelE I p q f) : Rel I p q (fun s => asB (f s)) := fun s t r => by
  show OR I p q Tr (asB (f s)) (asB (f t))
  rcases (h s t r).inv with ⟨e1, e2⟩ | ⟨x, s, t, e1, e2, g, r⟩
  · rw [e1, e2]; exact .nn
  rw [e1, e2]; clear e1 e2; try dsimp only
  cases x with
  | fz d => cases d <;> first | exact .nn | exact .ss trivial r
  | _ => exact .nn
theorem rt_yes : Rel I p q dYes := fun s t r => .ss trivial r
theorem rt_and {f g : DT} (h : Rel I p q f) (h2 : Rel I p q g) : Rel I p q (dAnd f g) := fun s t r => by
  unfold dAnd
  rcases (h s t r).inv with ⟨e1, e2⟩ | ⟨x, s, t, e1, e2, _, r⟩
  · rw [e1, e2]; exact .nn
  rw [e1, e2]; clear e1 e2; try dsimp only
  cases x
  · exact .ss trivial r
  · exact h2 s t r
theorem rt_bool {f : DE} (h : RelE I p q f) : Rel I p q (dBool f) := rt_asB h
theorem re_val {f : DT} (h : Rel I p q f) : RelE I p q (dVal f) := fun s t r => (h s t r).map (fun b => Vl.fz (.bool b)) fun _ _ => okV.fz
theorem re_if {c : DT} {f g : DE} (hc : Rel I p q c) (h : RelE I p q f) (h2 : RelE I p q g) : RelE I p q (dIf c f g) := fun s t r => by
  unfold dIf
  rcases (hc s t r).inv with ⟨e1, e2⟩ | ⟨x, s, t, e1, e2, _, r⟩
  · rw [e1, e2]; exact .nn
  rw [e1, e2]; clear e1 e2; try dsimp only
  cases x
  · exact h2 s t r
  · exact h s t r
theorem rs_nil : RelEs I p q dNil := fun s t r => .ss .nil r
theorem rs_cons {f : DE} {g : DEs} (h : RelE I p q f) (h2 : RelEs I p q g) : RelEs I p q (dCons f g) := fun s t r => by
  unfold dCons
  rcases (re_set h s t r).inv with ⟨e1, e2⟩ | ⟨x, s, t, e1, e2, g1, r⟩
  · rw [e1, e2]; exact .nn
  rw [e1, e2]; clear e1 e2; try dsimp only
  rcases (h2 s t r).inv with ⟨e1, e2⟩ | ⟨y, s, t, e1, e2, g2, r⟩
  · rw [e1, e2]; exact .nn
  rw [e1, e2]; clear e1 e2; try dsimp only
  exact .ss (.cons g1 g2) r
theorem rs_consP {f : DE} {g : DEs} (h : RelE I p q f) (h2 : RelEs I p q g) : RelEs I p q (dConsP f g) := fun s t r => by
  unfold dConsP
  rcases (h s t r).inv with ⟨e1, e2⟩ | ⟨x, s, t, e1, e2, g1, r⟩
  · rw [e1, e2]; exact .nn
  rw [e1, e2]; clear e1 e2; try dsimp only
  rcases (r.unsl g1).inv with ⟨e1, e2⟩ | ⟨x, s, t, e1, e2, g1, r⟩
  · rw [e1, e2]; exact .nn
  rw [e1, e2]; clear e1 e2; try dsimp only
  rcases (h2 s t r).inv with ⟨e1, e2⟩ | ⟨y, s, t, e1, e2, g2, r⟩
  · rw [e1, e2]; exact .nn
  rw [e1, e2]; clear e1 e2; try dsimp only
  exact .ss (.cons g1 g2) r
theorem re_tup {g : DEs} (h : RelEs I p q g) : RelE I p q (dTup g) := fun s t r => by
  unfold dTup
  rcases (h s t r).inv with ⟨e1, e2⟩ | ⟨x, s, t, e1, e2, g1, r⟩
  · rw [e1, e2]; exact .nn
  rw [e1, e2]; clear e1 e2; try dsimp only
  rcases (r.frzAll g1).inv with ⟨e1, e2⟩ | ⟨x, s, t, e1, e2, g1, r⟩
  · rw [e1, e2]; exact .nn
  rw [e1, e2]; clear e1 e2; try dsimp only
  try dsimp only
  split
  · exact .ss .fz r
  · exact .nn
theorem re_lst {g : DEs} (h : RelEs I p q g) : RelE I p q (dLst g) := fun s t r => by
  unfold dLst
  rcases (h s t r).inv with ⟨e1, e2⟩ | ⟨x, s, t, e1, e2, g1, r⟩
  · rw [e1, e2]; exact .nn
  rw [e1, e2]; clear e1 e2; try dsimp only
  rcases (r.frzAll g1).inv with ⟨e1, e2⟩ | ⟨x, s, t, e1, e2, g1, r⟩
  · rw [e1, e2]; exact .nn
  rw [e1, e2]; clear e1 e2; try dsimp only
  try dsimp only
  split
  · exact .ss .fr r
  · exact .nn
theorem re_disp1 {fk fv : DE} (h : RelE I p q fk) (h2 : RelE I p q fv) : RelE I p q (dDisp1 fk fv) := fun s t r => by
  unfold dDisp1
  rcases (re_set h s t r).inv with ⟨e1, e2⟩ | ⟨x, s, t, e1, e2, g1, r⟩
  · rw [e1, e2]; exact .nn
  rw [e1, e2]; clear e1 e2; try dsimp only
  cases x <;> try exact .nn
  try dsimp only
  rcases (h2 s t r).inv with ⟨e1, e2⟩ | ⟨x, s, t, e1, e2, g1, r⟩
  · rw [e1, e2]; exact .nn
  rw [e1, e2]; clear e1 e2; try dsimp only
  rcases (r.frz g1).inv with ⟨e1, e2⟩ | ⟨x, s, t, e1, e2, g1, r⟩
  · rw [e1, e2]; exact .nn
  rw [e1, e2]; clear e1 e2; try dsimp only
  try dsimp only
  split
  · exact .ss .fr r
  · exact .nn
theorem re_empty : RelE I p q (fun s => some (.fr (.dict []), s)) := fun s t r => .ss .fr r
theorem ro_no : Rel I p q dNo := fun s t r => .ss trivial r
theorem ro_part {f : DE} (h : RelE I p q f) : Rel I p q (dPart f) := fun s t r => by
  unfold dPart
  rcases (h s t r).inv with ⟨e1, e2⟩ | ⟨x, s, t, e1, e2, g1, r⟩
  · rw [e1, e2]; exact .nn
  rw [e1, e2]; clear e1 e2; try dsimp only
  cases x with
  | fz d => cases d <;> first | exact .nn | exact .ss trivial r
  | _ => exact .nn
theorem re_slice {f : DE} {fl fh : DO} (h : RelE I p q f) (h1 : Rel I p q fl) (h2 : Rel I p q fh) : RelE I p q (dSlice f fl fh) := fun s t r => by
  unfold dSlice
  rcases (re_set h s t r).inv with ⟨e1, e2⟩ | ⟨x, s, t, e1, e2, g, r⟩
  · rw [e1, e2]; exact .nn
  rw [e1, e2]; clear e1 e2; try dsimp only
  rcases (h1 s t r).inv with ⟨e1, e2⟩ | ⟨l, s, t, e1, e2, _, r⟩
  · rw [e1, e2]; exact .nn
  rw [e1, e2]; clear e1 e2; try dsimp only
  rcases (h2 s t r).inv with ⟨e1, e2⟩ | ⟨hh, s, t, e1, e2, _, r⟩
  · rw [e1, e2]; exact .nn
  rw [e1, e2]; clear e1 e2; try dsimp only
  try dsimp only
  rw [r.cont g]
  cases cont t x with
  | none => exact .nn
  | some d => cases d <;> first | exact .nn | exact .ss .fz r | exact .ss .fr r
theorem re_rev {f : DE} (h : RelE I p q f) : RelE I p q (dRev f) := fun s t r => by
  unfold dRev
  rcases (re_set h s t r).inv with ⟨e1, e2⟩ | ⟨x, s, t, e1, e2, g, r⟩
  · rw [e1, e2]; exact .nn
  rw [e1, e2]; clear e1 e2; try dsimp only
  try dsimp only
  rw [r.cont g]
  cases cont t x with
  | none => exact .nn
  | some d => cases d <;> first | exact .nn | exact .ss .fz r | exact .ss .fr r
theorem re_callB {op : OpN} {g : DEs} (ho : NSN op) (h : RelEs I p q g) : RelE I p q (dCallB op g) := fun s t r => by
  unfold dCallB
  rcases (h s t r).inv with ⟨e1, e2⟩ | ⟨x, s, t, e1, e2, g, r⟩
  · rw [e1, e2]; exact .nn
  rw [e1, e2]; clear e1 e2; try dsimp only
  try dsimp only
  rw [r.conts g]
  cases conts t x with
  | none => exact .nn
  | some d => exact .pure _ r fun z h => .no (ho _ _ h)
end
end Rg
namespace Rg
open PySem L2
theorem OS.inv {I : List Nat} {p q : Option PotSt} {a b : Option S} (h : OS I p q a b) : (a = Option.none ∧ b = Option.none) ∨ ∃ s t, a = Option.some s ∧ b = Option.some t ∧ R I p q s t := by
  cases h with
  | nn => exact .inl ⟨rfl, rfl⟩
  | ss r => exact .inr ⟨_, _, rfl, rfl, r⟩
section
variable {I : List Nat} {p q : Option PotSt} {s t : S}
theorem re_met {n : String} {op : OpN} {fo : DE} {g : DEs} (ho : NSN op) (h : RelE I p q fo) (h2 : RelEs I p q g) : RelE I p q (dMet n op fo g) := fun s t r => by
  unfold dMet
  rcases (re_set h s t r).inv with ⟨e1, e2⟩ | ⟨x, s, t, e1, e2, g1, r⟩
  · rw [e1, e2]; exact .nn
  rw [e1, e2]; clear e1 e2; try dsimp only
  rw [r.cont g1]
  cases cont t x with
  | none => exact .nn
  | some d0 =>
    try dsimp only
    split
    · skip
      rcases (h2 s t r).inv with ⟨e1, e2⟩ | ⟨xs, s, t, e1, e2, g2, r⟩
      · rw [e1, e2]; exact .nn
      rw [e1, e2]; clear e1 e2; try dsimp only
      rw [r.cont g1, r.conts g2]
      cases cont t x with
      | none => exact .nn
      | some d =>
        cases conts t xs with
        | none => exact .nn
        | some ds => exact .pure _ r fun z h => .no (ho _ _ h)
    · exact .nn
theorem re_mut {n : String} {op : OpM} {fo : DE} {g : DEs} (h : RelE I p q fo) (h2 : RelEs I p q g) : RelE I p q (dMut n op fo g) := fun s t r => by
  unfold dMut
  rcases (h s t r).inv with ⟨e1, e2⟩ | ⟨x, s, t, e1, e2, g1, r⟩
  · rw [e1, e2]; exact .nn
  rw [e1, e2]; clear e1 e2; try dsimp only
  cases x <;> try exact .nn
  rename_i i
  try dsimp only
  rw [r.at' i (g1 i rfl)]
  cases t.env[i]? with
  | none => exact .nn
  | some o =>
    cases o with
    | none => exact .nn
    | some o =>
      cases o <;> try exact .nn
      try dsimp only
      split
      · skip
        rcases (h2 s t r).inv with ⟨e1, e2⟩ | ⟨xs, s, t, e1, e2, g2, r⟩
        · rw [e1, e2]; exact .nn
        rw [e1, e2]; clear e1 e2; try dsimp only
        rcases (r.frzAll g2).inv with ⟨e1, e2⟩ | ⟨ds, s, t, e1, e2, g2, r⟩
        · rw [e1, e2]; exact .nn
        rw [e1, e2]; clear e1 e2; try dsimp only
        rw [r.at' i (g1 i rfl)]
        cases t.env[i]? with
        | none => exact .nn
        | some o =>
          cases o with
          | none => exact .nn
          | some o =>
            cases o <;> try exact .nn
            try dsimp only
            cases op _ ds with
            | none => exact .nn
            | some z => exact .ss .fz (r.put _ _)
      · exact .nn
theorem re_rgT2 {f f2 : DE} (h : RelE I p q f) (h2 : RelE I p q f2) : RelE I p q (dRgT2 f f2) := fun s t r => by
  unfold dRgT2
  rcases (re_set h s t r).inv with ⟨e1, e2⟩ | ⟨x, s, t, e1, e2, g1, r⟩
  · rw [e1, e2]; exact .nn
  rw [e1, e2]; clear e1 e2; try dsimp only
  cases x with
  | fz d =>
    cases d <;> try exact .nn
    try dsimp only
    rcases (re_set h2 s t r).inv with ⟨e1, e2⟩ | ⟨y, s, t, e1, e2, g1, r⟩
    · rw [e1, e2]; exact .nn
    rw [e1, e2]; clear e1 e2; try dsimp only
    cases y with
    | fz d =>
      cases d <;> try exact .nn
      try dsimp only
      split
      · exact .ss .fz r
      · exact .nn
    | _ => exact .nn
  | _ => exact .nn
theorem rt_neRepr {fa fb : DE} (h : RelE I p q fa) (h2 : RelE I p q fb) : Rel I p q (dNeRepr fa fb) := fun s t r => by
  unfold dNeRepr
  rcases (re_set h s t r).inv with ⟨e1, e2⟩ | ⟨x, s, t, e1, e2, g1, r⟩
  · rw [e1, e2]; exact .nn
  rw [e1, e2]; clear e1 e2; try dsimp only
  rw [r.cont g1]
  cases cont t x with
  | none => exact .nn
  | some d =>
    try dsimp only
    rcases (re_set h2 s t r).inv with ⟨e1, e2⟩ | ⟨y, s, t, e1, e2, g2, r⟩
    · rw [e1, e2]; exact .nn
    rw [e1, e2]; clear e1 e2; try dsimp only
    rw [r.cont g2]
    cases cont t y with
    | none => exact .nn
    | some d =>
      try dsimp only
      split
      · exact .ss trivial r
      · exact .nn
/-! ### stores -/
theorem rg_var {i : Nat} : RelG I p q (gVar i) := fun x s t g r => by
  unfold gVar
  by_cases hl : i < s.env.length
  · rw [List.getElem?_eq_getElem hl, List.getElem?_eq_getElem (r.len ▸ hl)]
    try dsimp only
    cases slOf x with
    | none => exact .nn
    | some y => exact .ss (r.put _ _)
  · rw [List.getElem?_eq_none (Nat.le_of_not_lt hl), List.getElem?_eq_none (r.len ▸ Nat.le_of_not_lt hl)]
    exact .nn
theorem rgs_nil : RelGs I p q gsNil := fun xs s t g r => by
  unfold gsNil
  cases xs with
  | nil => exact .ss r
  | cons _ _ => exact .nn
theorem rgs_cons {g : DG} {gs : DGs} (h : RelG I p q g) (h2 : RelGs I p q gs) : RelGs I p q (gsCons g gs) := fun xs s t gx r => by
  unfold gsCons
  cases xs with
  | nil => exact .nn
  | cons x xs =>
    try dsimp only
    rcases (h x s t (gx x List.mem_cons_self) r).inv with ⟨e1, e2⟩ | ⟨s, t, e1, e2, r⟩
    · rw [e1, e2]; exact .nn
    rw [e1, e2]
    exact h2 xs s t (fun y hy => gx y (List.mem_cons_of_mem _ hy)) r
theorem rg_tup {gs : DGs} (h : RelGs I p q gs) : RelG I p q (gTupD gs) := fun x s t g r => by
  unfold gTupD
  cases x with
  | fz d => cases d <;> first | exact .nn | exact h _ s t (.fzs _) r
  | _ => exact .nn
theorem rg_ixAux {fo fi : DE} (h : RelE I p q fo) (h2 : RelE I p q fi) {d : PyData} (r : R I p q s t) : OS I p q (match fo s with
      | some (.sl n, s2) => match dSet fi s2 with
        | some (y, s3) => match s3.env[n]?, cont s3 y with
          | some (some (.own c)), some di => (setIx c di d).map fun c' => s3.put n (.own c')
          | _, _ => none
        | none => none
      | _ => none) (match fo t with
      | some (.sl n, s2) => match dSet fi s2 with
        | some (y, s3) => match s3.env[n]?, cont s3 y with
          | some (some (.own c)), some di => (setIx c di d).map fun c' => s3.put n (.own c')
          | _, _ => none
        | none => none
      | _ => none) := by
  rcases (h s t r).inv with ⟨e1, e2⟩ | ⟨x, s, t, e1, e2, g1, r⟩
  · rw [e1, e2]; exact .nn
  rw [e1, e2]; clear e1 e2; try dsimp only
  cases x <;> try exact .nn
  rename_i n
  try dsimp only
  rcases (re_set h2 s t r).inv with ⟨e1, e2⟩ | ⟨y, s, t, e1, e2, g2, r⟩
  · rw [e1, e2]; exact .nn
  rw [e1, e2]; clear e1 e2; try dsimp only
  rw [r.cont g2, r.at' n (g1 n rfl)]
  cases t.env[n]? with
  | none => exact .nn
  | some o =>
    cases o with
    | none => exact .nn
    | some o =>
      cases o <;> try exact .nn
      cases cont t y with
      | none => exact .nn
      | some di =>
        try dsimp only
        cases setIx _ di d with
        | none => exact .nn
        | some c => exact .ss (r.put _ _)
theorem rg_ix {fo fi : DE} (h : RelE I p q fo) (h2 : RelE I p q fi) : RelG I p q (gIx fo fi) := fun x s t g r => by
  unfold gIx
  cases x with
  | fz d => exact rg_ixAux h h2 r
  | fr d => exact rg_ixAux h h2 r
  | _ => exact .nn
/-! ### statements -/
theorem rd_nop : Rel I p q dNop := fun s t r => .ss trivial r
theorem rd_seq {f g : DS} (h : Rel I p q f) (h2 : Rel I p q g) : Rel I p q (dSeq f g) := fun s t r => by
  unfold dSeq
  rcases (h s t r).inv with ⟨e1, e2⟩ | ⟨x, s, t, e1, e2, _, r⟩
  · rw [e1, e2]; exact .nn
  rw [e1, e2]; clear e1 e2; try dsimp only
  cases x <;> first | exact h2 s t r | exact .ss trivial r
theorem rd_expr {f : DE} (h : RelE I p q f) : Rel I p q (dExpr f) := fun s t r => by
  unfold dExpr
  rcases (h s t r).inv with ⟨e1, e2⟩ | ⟨x, s, t, e1, e2, _, r⟩
  · rw [e1, e2]; exact .nn
  rw [e1, e2]; clear e1 e2; try dsimp only
  exact .ss trivial r
theorem rd_if {c : DT} {f g : DS} (hc : Rel I p q c) (h : Rel I p q f) (h2 : Rel I p q g) : Rel I p q (dIfS c f g) := fun s t r => by
  unfold dIfS
  rcases (hc s t r).inv with ⟨e1, e2⟩ | ⟨x, s, t, e1, e2, _, r⟩
  · rw [e1, e2]; exact .nn
  rw [e1, e2]; clear e1 e2; try dsimp only
  cases x
  · exact h2 s t r
  · exact h s t r
theorem rd_ret {f : DE} (h : RelE I p q f) : Rel I p q (dRet f) := fun s t r => by
  unfold dRet
  rcases (h s t r).inv with ⟨e1, e2⟩ | ⟨x, s, t, e1, e2, g, r⟩
  · rw [e1, e2]; exact .nn
  rw [e1, e2]; clear e1 e2; try dsimp only
  rcases (r.leave g).inv with ⟨e1, e2⟩ | ⟨y, s, t, e1, e2, g, r⟩
  · rw [e1, e2]; exact .nn
  rw [e1, e2]; clear e1 e2; try dsimp only
  exact .ss trivial r
theorem rd_asg {f : DE} {g : DG} (h : RelE I p q f) (h2 : RelG I p q g) : Rel I p q (dAsg f g) := fun s t r => by
  unfold dAsg
  rcases (h s t r).inv with ⟨e1, e2⟩ | ⟨x, s, t, e1, e2, g, r⟩
  · rw [e1, e2]; exact .nn
  rw [e1, e2]; clear e1 e2; try dsimp only
  rcases (r.unsl g).inv with ⟨e1, e2⟩ | ⟨y, s, t, e1, e2, g, r⟩
  · rw [e1, e2]; exact .nn
  rw [e1, e2]; clear e1 e2; try dsimp only
  rcases (h2 y s t g r).inv with ⟨e1, e2⟩ | ⟨s, t, e1, e2, r⟩
  · rw [e1, e2]; exact .nn
  rw [e1, e2]
  exact .ss trivial r
theorem rd_par {g : DEs} {gs : DGs} (h : RelEs I p q g) (h2 : RelGs I p q gs) : Rel I p q (dPar g gs) := fun s t r => by
  unfold dPar
  rcases (h s t r).inv with ⟨e1, e2⟩ | ⟨x, s, t, e1, e2, g, r⟩
  · rw [e1, e2]; exact .nn
  rw [e1, e2]; clear e1 e2; try dsimp only
  split
  · rcases (h2 x s t g r).inv with ⟨e1, e2⟩ | ⟨s, t, e1, e2, r⟩
    · rw [e1, e2]; exact .nn
    rw [e1, e2]
    exact .ss trivial r
  · exact .nn
/-! ### iterables, loops -/
theorem ri_any {f : DE} (h : RelE I p q f) : Rel I p q (dAny f) := fun s t r => by
  unfold dAny
  rcases (h s t r).inv with ⟨e1, e2⟩ | ⟨x, s, t, e1, e2, g, r⟩
  · rw [e1, e2]; exact .nn
  rw [e1, e2]; clear e1 e2; try dsimp only
  rcases (r.frz g).inv with ⟨e1, e2⟩ | ⟨d, s, t, e1, e2, g, r⟩
  · rw [e1, e2]; exact .nn
  rw [e1, e2]; clear e1 e2; try dsimp only
  cases d <;> try exact .nn
  · exact .ss trivial r
  · exact .ss trivial r
  · try dsimp only
    split
    · exact .ss trivial r
    · exact .nn
theorem ri_items {f : DE} (h : RelE I p q f) : Rel I p q (dItems f) := fun s t r => by
  unfold dItems
  rcases (h s t r).inv with ⟨e1, e2⟩ | ⟨x, s, t, e1, e2, g, r⟩
  · rw [e1, e2]; exact .nn
  rw [e1, e2]; clear e1 e2; try dsimp only
  rcases (r.frz g).inv with ⟨e1, e2⟩ | ⟨d, s, t, e1, e2, g, r⟩
  · rw [e1, e2]; exact .nn
  rw [e1, e2]; clear e1 e2; try dsimp only
  cases d <;> try exact .nn
  try dsimp only
  split
  · exact .ss trivial r
  · exact .nn
theorem ri_rg1 {g : DEs} (h : RelEs I p q g) : Rel I p q (dRg1 g) := fun s t r => by
  unfold dRg1
  rcases (h s t r).inv with ⟨e1, e2⟩ | ⟨x, s, t, e1, e2, g, r⟩
  · rw [e1, e2]; exact .nn
  rw [e1, e2]; clear e1 e2; try dsimp only
  split
  · rename_i e
    cases e
    try dsimp only
    split
    · exact .ss trivial r
    · exact .nn
  · rename_i hn
    split
    · rename_i e
      cases e
      exact absurd rfl (hn _ _)
    · exact .nn
theorem ri_rg2 {g : DEs} (h : RelEs I p q g) : Rel I p q (dRg2 g) := fun s t r => by
  unfold dRg2
  rcases (h s t r).inv with ⟨e1, e2⟩ | ⟨x, s, t, e1, e2, g, r⟩
  · rw [e1, e2]; exact .nn
  rw [e1, e2]; clear e1 e2; try dsimp only
  split
  · rename_i e
    cases e
    try dsimp only
    split
    · exact .ss trivial r
    · exact .nn
  · rename_i hn
    split
    · rename_i e
      cases e
      exact absurd rfl (hn _ _ _)
    · exact .nn
theorem ri_enum {g : DEs} (h : RelEs I p q g) : Rel I p q (dEnum g) := fun s t r => by
  unfold dEnum
  rcases (h s t r).inv with ⟨e1, e2⟩ | ⟨x, s, t, e1, e2, g, r⟩
  · rw [e1, e2]; exact .nn
  rw [e1, e2]; clear e1 e2; try dsimp only
  cases x with
  | nil => exact .nn
  | cons x xs =>
    cases xs with
    | cons _ _ => exact .nn
    | nil =>
      try dsimp only
      rcases (r.frz (g x List.mem_cons_self)).inv with ⟨e1, e2⟩ | ⟨d, s, t, e1, e2, g, r⟩
      · rw [e1, e2]; exact .nn
      rw [e1, e2]; clear e1 e2; try dsimp only
      cases d <;> first | exact .nn | exact .ss trivial r
theorem rd_forL {g : DG} {b : DS} (h : RelG I p q g) (h2 : Rel I p q b) : ∀ ds, Rel I p q (dForL g b ds)
  | [] => fun s t r => .ss trivial r
  | d :: ds => fun s t r => by
    unfold dForL
    rcases (h (.fz d) s t .fz r).inv with ⟨e1, e2⟩ | ⟨s, t, e1, e2, r⟩
    · rw [e1, e2]; exact .nn
    rw [e1, e2]
    try dsimp only
    rcases (h2 s t r).inv with ⟨e1, e2⟩ | ⟨x, s, t, e1, e2, g, r⟩
    · rw [e1, e2]; exact .nn
    rw [e1, e2]; clear e1 e2; try dsimp only
    cases x <;> first | exact rd_forL h h2 ds s t r | exact .ss trivial r
theorem rd_for {fi : DI} {g : DG} {b : DS} (hi : Rel I p q fi) (h : RelG I p q g) (h2 : Rel I p q b) : Rel I p q (dFor fi g b) := fun s t r => by
  unfold dFor
  rcases (hi s t r).inv with ⟨e1, e2⟩ | ⟨x, s, t, e1, e2, g, r⟩
  · rw [e1, e2]; exact .nn
  rw [e1, e2]; clear e1 e2; try dsimp only
  exact rd_forL h h2 x s t r
theorem R.clear (r : R I p q s t) : ∀ vs, R I p q (s.clear vs) (t.clear vs)
  | [] => r
  | v :: vs => (r.clear vs).setN v
theorem R.saveAt (r : R I p q s t) : ∀ {vs : List Nat}, (∀ v ∈ vs, v ∉ I) → Rg.saveAt s vs = Rg.saveAt t vs
  | [], _ => rfl
  | v :: vs, h => by
    unfold Rg.saveAt
    rw [r.at' v (h v List.mem_cons_self), r.saveAt fun y hy => h y (List.mem_cons_of_mem _ hy)]
theorem R.back (r : R I p q s t) : ∀ (vs : List Nat) (ds : List (Option PyData)), R I p q (s.back vs ds) (t.back vs ds)
  | v :: vs, some d :: ds => (r.back vs ds).put v (.fz d)
  | _ :: vs, none :: ds => r.back vs ds
  | [], _ => by unfold S.back; exact r
  | _ :: _, [] => by unfold S.back; exact r
theorem rd_lcL {g : DG} {tt : DT} {te : DE} {vs : List Nat} (h : RelG I p q g) (h1 : Rel I p q tt) (h2 : RelE I p q te) : ∀ ds, Rel I p q (dLcL g tt te vs ds)
  | [] => fun s t r => .ss trivial r
  | d :: ds => fun s t r => by
    unfold dLcL
    rcases (h (.fz d) s t .fz r).inv with ⟨e1, e2⟩ | ⟨s, t, e1, e2, r⟩
    · rw [e1, e2]; exact .nn
    rw [e1, e2]
    try dsimp only
    rcases (h1 s t r).inv with ⟨e1, e2⟩ | ⟨x, s, t, e1, e2, g, r⟩
    · rw [e1, e2]; exact .nn
    rw [e1, e2]; clear e1 e2; try dsimp only
    cases x
    · exact rd_lcL h h1 h2 ds _ _ (r.clear vs)
    · try dsimp only
      rcases (h2 s t r).inv with ⟨e1, e2⟩ | ⟨x, s, t, e1, e2, g, r⟩
      · rw [e1, e2]; exact .nn
      rw [e1, e2]; clear e1 e2; try dsimp only
      rcases (r.frz g).inv with ⟨e1, e2⟩ | ⟨d, s, t, e1, e2, g, r⟩
      · rw [e1, e2]; exact .nn
      rw [e1, e2]; clear e1 e2; try dsimp only
      rcases (rd_lcL h h1 h2 ds _ _ (r.clear vs)).inv with ⟨e1, e2⟩ | ⟨d, s, t, e1, e2, g, r⟩
      · rw [e1, e2]; exact .nn
      rw [e1, e2]; clear e1 e2; try dsimp only
      exact .ss trivial r
theorem re_lc {fi : DI} {g : DG} {tt : DT} {te : DE} {vs : List Nat} (hi : Rel I p q fi) (h : RelG I p q g) (h1 : Rel I p q tt) (h2 : RelE I p q te) (hv : ∀ v ∈ vs, v ∉ I := by decide) : RelE I p q (dLc fi g tt te vs) := fun s t r => by
  unfold dLc
  rcases (hi s t r).inv with ⟨e1, e2⟩ | ⟨ds, s, t, e1, e2, g, r⟩
  · rw [e1, e2]; exact .nn
  rw [e1, e2]; clear e1 e2; try dsimp only
  rw [r.saveAt hv]
  cases saveAt t vs with
  | none => exact .nn
  | some sv =>
    try dsimp only
    have hl := r.len
    rcases (rd_lcL (vs := vs) h h1 h2 ds _ _ (r.clear vs)).inv with ⟨e1, e2⟩ | ⟨es, s2, t2, e1, e2, _, r⟩
    · rw [e1, e2]; exact .nn
    rw [e1, e2]
    try dsimp only
    rw [r.len, hl]
    split
    · exact .ss .fr (r.back vs sv)
    · exact .nn
/-! ### calls -/
def RelD (p q : Option PotSt) (D : DF) : Prop := ∀ as, (D as p = none ∧ D as q = none) ∨ ∃ v, v.isSl = false ∧ D as p = some (v, p) ∧ D as q = some (v, q)
theorem samePot_self : ∀ p : Option PotSt, samePot p p = true
  | none => rfl
  | some _ => rfl
theorem rel_def {n np : Nat} {f : DS} (h : Rel [] p q f) : RelD p q (runDef n np f) := fun as => by
  unfold runDef
  split
  · rcases (h ⟨envOf n as, p⟩ ⟨envOf n as, q⟩ ⟨rfl, fun _ _ => rfl, rfl, rfl⟩).inv with ⟨e1, e2⟩ | ⟨x, s, t, e1, e2, _, r⟩
    · rw [e1, e2]; exact .inl ⟨rfl, rfl⟩
    rw [e1, e2]
    cases x with
    | nx => simp only [r.p1, r.p2, samePot_self, if_true]; exact .inr ⟨_, rfl, rfl, rfl⟩
    | rt x => cases x <;> first | exact .inl ⟨rfl, rfl⟩ | (simp only [r.p1, r.p2, samePot_self, if_true]; exact .inr ⟨_, rfl, rfl, rfl⟩)
    | _ => exact .inl ⟨rfl, rfl⟩
  · exact .inl ⟨rfl, rfl⟩
theorem R.arOf (r : R I p q s t) {x : Vl} (h : okV I x) : Rg.arOf s x = Rg.arOf t x := by
  cases x <;> try rfl
  unfold Rg.arOf
  try dsimp only
  rw [r.cont h]
theorem R.arsOf (r : R I p q s t) : ∀ {xs : List Vl}, okVs I xs → Rg.arsOf s xs = Rg.arsOf t xs
  | [], _ => rfl
  | x :: xs, h => by
    unfold Rg.arsOf
    rw [r.arOf (h x List.mem_cons_self), r.arsOf fun y hy => h y (List.mem_cons_of_mem _ hy)]
theorem R.frzI (r : R I p q s t) (J : Nat → Bool) : R I p q (s.frzI J) (t.frzI J) :=
  ⟨by show (List.mapIdx _ _).length = (List.mapIdx _ _).length; rw [List.length_mapIdx, List.length_mapIdx, r.len], fun j hj => by
    show (List.mapIdx _ _)[j]? = (List.mapIdx _ _)[j]?
    rw [List.getElem?_mapIdx, List.getElem?_mapIdx, r.at' j hj], r.p1, r.p2⟩
theorem R.pots (r : R I p q s t) : R I p q { s with pot := p } { t with pot := q } := ⟨r.len, r.at', rfl, rfl⟩
theorem re_callS {D : DF} {xs : List Vl} (hD : RelD p q D) (h : okVs I xs) (r : R I p q s t) : OR I p q (okV I) (callS D xs s) (callS D xs t) := by
  unfold callS
  rw [r.arsOf h, r.p1, r.p2]
  cases arsOf t xs with
  | none => exact .nn
  | some as =>
    try dsimp only
    rcases hD as with ⟨e1, e2⟩ | ⟨v, hv, e1, e2⟩
    · rw [e1, e2]; exact .nn
    rw [e1, e2]
    try dsimp only
    split
    · exact .ss (.no hv) r.pots
    · exact .ss (.no hv) (r.frzI _).pots
theorem okVs.append {xs ys : List Vl} (h : okVs I xs) (h2 : okVs I ys) : okVs I (xs ++ ys) := fun x hx => by
  rcases List.mem_append.mp hx with hx | hx
  · exact h x hx
  · exact h2 x hx
theorem okVs.sel {xs : List Vl} (h : okVs I xs) {d : Vl} (hd : okV I d) (ord : List Nat) : okVs I (Rg.sel d ord xs) := fun x hx => by
  unfold Rg.sel at hx
  obtain ⟨i, _, rfl⟩ := List.mem_map.mp hx
  rw [List.getD_eq_getElem?_getD]
  cases e : xs[i]? with
  | none => exact hd
  | some y => exact h y (List.mem_of_getElem? e)
theorem re_callF {D : DF} {n m : Nat} {ord : List Nat} {g gk : DEs} (hD : RelD p q D) (h : RelEs I p q g) (h2 : RelEs I p q gk) : RelE I p q (dCallF D n m ord g gk) := fun s t r => by
  unfold dCallF
  rcases (h s t r).inv with ⟨e1, e2⟩ | ⟨xs, s, t, e1, e2, g1, r⟩
  · rw [e1, e2]; exact .nn
  rw [e1, e2]; clear e1 e2; try dsimp only
  rcases (h2 s t r).inv with ⟨e1, e2⟩ | ⟨zs, s, t, e1, e2, g2, r⟩
  · rw [e1, e2]; exact .nn
  rw [e1, e2]; clear e1 e2; try dsimp only
  split
  · exact re_callS hD ((g1.append g2).sel (.no rfl) ord) r
  · exact .nn
end
end Rg
namespace Rg
open PySem L2
theorem map_ns {o : Option PyData} {z : Vl} (h : o.map Vl.fz = some z) : z.isSl = false := by
  obtain ⟨d, _, rfl⟩ := Option.map_eq_some_iff.mp h
  rfl
theorem ns_opAdd : NS2 opAdd := fun x y z h => by
  unfold opAdd at h
  repeat' split at h
  all_goals first | (cases h; rfl) | exact map_ns h | cases h
theorem ns_opSub : NS2 opSub := fun x y z h => by
  unfold opSub at h
  repeat' split at h
  all_goals first | (cases h; rfl) | exact map_ns h | cases h
theorem ns_opMul : NS2 opMul := fun x y z h => by
  unfold opMul at h
  repeat' split at h
  all_goals first | (cases h; rfl) | exact map_ns h | cases h
theorem ns_opFDiv : NS2 opFDiv := fun x y z h => by
  unfold opFDiv at h
  repeat' split at h
  all_goals first | (cases h; rfl) | exact map_ns h | cases h
theorem ns_opMod : NS2 opMod := fun x y z h => by
  unfold opMod at h
  repeat' split at h
  all_goals first | (cases h; rfl) | exact map_ns h | cases h
theorem ns_opPow : NS2 opPow := fun x y z h => by
  unfold opPow at h
  repeat' split at h
  all_goals first | (cases h; rfl) | exact map_ns h | cases h
theorem ns_opEq : NS2 opEq := fun x y z h => by
  unfold opEq at h
  repeat' split at h
  all_goals first | (cases h; rfl) | exact map_ns h | cases h
theorem ns_opNe : NS2 opNe := fun x y z h => by
  unfold opNe at h
  repeat' split at h
  all_goals first | (cases h; rfl) | exact map_ns h | cases h
theorem ns_opLt : NS2 opLt := fun x y z h => by
  unfold opLt at h
  repeat' split at h
  all_goals first | (cases h; rfl) | exact map_ns h | cases h
theorem ns_opLe : NS2 opLe := fun x y z h => by
  unfold opLe at h
  repeat' split at h
  all_goals first | (cases h; rfl) | exact map_ns h | cases h
theorem ns_opGt : NS2 opGt := fun x y z h => by
  unfold opGt at h
  repeat' split at h
  all_goals first | (cases h; rfl) | exact map_ns h | cases h
theorem ns_opGe : NS2 opGe := fun x y z h => by
  unfold opGe at h
  repeat' split at h
  all_goals first | (cases h; rfl) | exact map_ns h | cases h
theorem ns_opIn : NS2 opIn := fun x y z h => by
  unfold opIn at h
  repeat' split at h
  all_goals first | (cases h; rfl) | exact map_ns h | cases h
theorem ns_opNotIn : NS2 opNotIn := fun x y z h => by
  unfold opNotIn at h
  repeat' split at h
  all_goals first | (cases h; rfl) | exact map_ns h | cases h
theorem ns_opIx : NS2 opIx := fun x y z h => by
  unfold opIx at h
  repeat' split at h
  all_goals first | (cases h; rfl) | exact map_ns h | cases h
theorem ns_opAbs : NSN opAbs := fun x z h => by
  unfold opAbs at h
  repeat' split at h
  all_goals first | (cases h; rfl) | exact map_ns h | (obtain ⟨d, _, rfl⟩ := Option.map_eq_some_iff.mp h; rfl) | cases h
theorem ns_opInt : NSN opInt := fun x z h => by
  unfold opInt at h
  repeat' split at h
  all_goals first | (cases h; rfl) | exact map_ns h | (obtain ⟨d, _, rfl⟩ := Option.map_eq_some_iff.mp h; rfl) | cases h
theorem ns_opLen : NSN opLen := fun x z h => by
  unfold opLen at h
  repeat' split at h
  all_goals first | (cases h; rfl) | exact map_ns h | (obtain ⟨d, _, rfl⟩ := Option.map_eq_some_iff.mp h; rfl) | cases h
theorem ns_opTuple : NSN opTuple := fun x z h => by
  unfold opTuple at h
  repeat' split at h
  all_goals first | (cases h; rfl) | exact map_ns h | (obtain ⟨d, _, rfl⟩ := Option.map_eq_some_iff.mp h; rfl) | cases h
theorem ns_opList : NSN opList := fun x z h => by
  unfold opList at h
  repeat' split at h
  all_goals first | (cases h; rfl) | exact map_ns h | (obtain ⟨d, _, rfl⟩ := Option.map_eq_some_iff.mp h; rfl) | cases h
theorem ns_opSum : NSN opSum := fun x z h => by
  unfold opSum at h
  repeat' split at h
  all_goals first | (cases h; rfl) | exact map_ns h | (obtain ⟨d, _, rfl⟩ := Option.map_eq_some_iff.mp h; rfl) | cases h
theorem ns_opSorted : NSN opSorted := fun x z h => by
  unfold opSorted at h
  repeat' split at h
  all_goals first | (cases h; rfl) | exact map_ns h | (obtain ⟨d, _, rfl⟩ := Option.map_eq_some_iff.mp h; rfl) | cases h
theorem ns_opDict : NSN opDict := fun x z h => by
  unfold opDict at h
  repeat' split at h
  all_goals first | (cases h; rfl) | exact map_ns h | (obtain ⟨d, _, rfl⟩ := Option.map_eq_some_iff.mp h; rfl) | cases h
theorem ns_opGet : NSN opGet := fun x z h => by
  unfold opGet at h
  repeat' split at h
  all_goals first | (cases h; rfl) | exact map_ns h | (obtain ⟨d, _, rfl⟩ := Option.map_eq_some_iff.mp h; rfl) | cases h
theorem ns_opMin2 : NSN opMin2 := fun x z h => by
  unfold opMin2 at h
  repeat' split at h
  all_goals first | (cases h; rfl) | exact map_ns h | (obtain ⟨d, _, rfl⟩ := Option.map_eq_some_iff.mp h; rfl) | cases h
theorem ns_opMax2 : NSN opMax2 := fun x z h => by
  unfold opMax2 at h
  repeat' split at h
  all_goals first | (cases h; rfl) | exact map_ns h | (obtain ⟨d, _, rfl⟩ := Option.map_eq_some_iff.mp h; rfl) | cases h
theorem ns_opAny : NSN opAny := fun x z h => by
  unfold opAny at h
  repeat' split at h
  all_goals first | (cases h; rfl) | exact map_ns h | (obtain ⟨d, _, rfl⟩ := Option.map_eq_some_iff.mp h; rfl) | cases h
theorem ns_opAll : NSN opAll := fun x z h => by
  unfold opAll at h
  repeat' split at h
  all_goals first | (cases h; rfl) | exact map_ns h | (obtain ⟨d, _, rfl⟩ := Option.map_eq_some_iff.mp h; rfl) | cases h
theorem ns_opNeg : NS1 opNeg := fun x z h => by
  unfold opNeg at h
  repeat' split at h
  all_goals first | (cases h; rfl) | exact map_ns h | cases h
end Rg
/-! Rg, part Zg: the frame, more pieces. -/
namespace Rg
open PySem L2
section
variable {I : List Nat} {p q : Option PotSt}
theorem rt_or {f g : DT} (h : Rel I p q f) (h2 : Rel I p q g) : Rel I p q (dOr f g) := fun s t r => by
  unfold dOr
  rcases (h s t r).inv with ⟨e1, e2⟩ | ⟨x, s, t, e1, e2, _, r⟩
  · rw [e1, e2]; exact .nn
  rw [e1, e2]; clear e1 e2; try dsimp only
  cases x
  · exact h2 s t r
  · exact .ss trivial r
theorem rt_not {f : DT} (h : Rel I p q f) : Rel I p q (dNot f) := fun s t r => by
  unfold dNot
  rcases (h s t r).inv with ⟨e1, e2⟩ | ⟨x, s, t, e1, e2, _, r⟩
  · rw [e1, e2]; exact .nn
  rw [e1, e2]
  exact .ss trivial r
theorem rd_while {c : DT} {b : DS} (hc : Rel I p q c) (hb : Rel I p q b) : ∀ n, Rel I p q (dWhile c b n)
  | 0 => fun s t r => .nn
  | n + 1 => fun s t r => by
    unfold dWhile
    rcases (hc s t r).inv with ⟨e1, e2⟩ | ⟨x, s, t, e1, e2, _, r⟩
    · rw [e1, e2]; exact .nn
    rw [e1, e2]; clear e1 e2; try dsimp only
    cases x
    · exact .ss trivial r
    · try dsimp only
      rcases (hb s t r).inv with ⟨e1, e2⟩ | ⟨x, s, t, e1, e2, g, r⟩
      · rw [e1, e2]; exact .nn
      rw [e1, e2]; clear e1 e2; try dsimp only
      cases x <;> first | exact rd_while hc hb n s t r | exact .ss trivial r
theorem rd_never : Rel I p q dNever := fun s t r => .nn
theorem re_vals {f : DE} (h : RelE I p q f) : Rel I p q (dVals f) := fun s t r => by
  unfold dVals
  rcases (re_set h s t r).inv with ⟨e1, e2⟩ | ⟨x, s, t, e1, e2, g, r⟩
  · rw [e1, e2]; exact .nn
  rw [e1, e2]; clear e1 e2; try dsimp only
  rw [r.cont g]
  cases Rg.cont t x with
  | none => exact .nn
  | some d =>
    cases d <;> try exact .nn
    try dsimp only
    split
    · exact .ss trivial r
    · exact .nn
theorem re_sumV {f : DE} (h : RelE I p q f) : RelE I p q (dSumV f) := fun s t r => by
  unfold dSumV
  rcases (re_vals h s t r).inv with ⟨e1, e2⟩ | ⟨x, s, t, e1, e2, g, r⟩
  · rw [e1, e2]; exact .nn
  rw [e1, e2]; clear e1 e2; try dsimp only
  cases intsOf x with
  | none => exact .nn
  | some ns => exact .ss .fz r
theorem re_listV {f : DE} (h : RelE I p q f) : RelE I p q (dListV f) := fun s t r => by
  unfold dListV
  rcases (re_vals h s t r).inv with ⟨e1, e2⟩ | ⟨x, s, t, e1, e2, g, r⟩
  · rw [e1, e2]; exact .nn
  rw [e1, e2]
  exact .ss .fr r
theorem ri_values {f : DE} (h : RelE I p q f) : Rel I p q (dValues f) := fun s t r => by
  unfold dValues
  rcases (h s t r).inv with ⟨e1, e2⟩ | ⟨x, s, t, e1, e2, g, r⟩
  · rw [e1, e2]; exact .nn
  rw [e1, e2]; clear e1 e2; try dsimp only
  rcases (r.frz g).inv with ⟨e1, e2⟩ | ⟨d, s, t, e1, e2, g, r⟩
  · rw [e1, e2]; exact .nn
  rw [e1, e2]; clear e1 e2; try dsimp only
  cases d <;> try exact .nn
  try dsimp only
  split
  · exact .ss trivial r
  · exact .nn
theorem ri_zip {g : DEs} (h : RelEs I p q g) : Rel I p q (dZip g) := fun s t r => by
  unfold dZip
  rcases (h s t r).inv with ⟨e1, e2⟩ | ⟨x, s, t, e1, e2, g, r⟩
  · rw [e1, e2]; exact .nn
  rw [e1, e2]; clear e1 e2; try dsimp only
  rcases (r.frzAll g).inv with ⟨e1, e2⟩ | ⟨d, s, t, e1, e2, g, r⟩
  · rw [e1, e2]; exact .nn
  rw [e1, e2]; clear e1 e2; try dsimp only
  split
  · rename_i e
    cases e
    exact .ss trivial r
  · rename_i e
    cases e
    exact .ss trivial r
  · rename_i h1 h2
    split
    · rename_i e; cases e; exact absurd rfl (h1 _ _ _)
    · rename_i e; cases e; exact absurd rfl (h2 _ _ _)
    · exact .nn
end
end Rg
set_option maxHeartbeats 4000000
namespace Rg
open PySem L2
def top (i : Nat) : Stmt := PySem.Challenge.pw_ringsandroads_k78_whole_main_means_behin.main.body.getD i (.Pass ⟨0, 0, 0, 0⟩)
abbrev potK : PotLay := potD "mixed" "turns"
theorem kys : Kys "mixed" "turns" := ⟨by decide +kernel, by decide +kernel, by decide +kernel⟩
theorem bt_abs : bootBuiltins "abs" = some (.builtin "abs") := by decide +kernel
theorem bt_dict : bootBuiltins "dict" = some (.type "dict") := by decide +kernel
theorem bt_int : bootBuiltins "int" = some (.type "int") := by decide +kernel
theorem bt_len : bootBuiltins "len" = some (.builtin "len") := by decide +kernel
theorem bt_list : bootBuiltins "list" = some (.type "list") := by decide +kernel
theorem bt_repr : bootBuiltins "repr" = some (.builtin "repr") := by decide +kernel
theorem bt_sorted : bootBuiltins "sorted" = some (.builtin "sorted") := by decide +kernel
theorem bt_sum : bootBuiltins "sum" = some (.builtin "sum") := by decide +kernel
theorem bt_tuple : bootBuiltins "tuple" = some (.type "tuple") := by decide +kernel
abbrev s_kept_places : Stmt := top 1
abbrev N_kept_places : List Str := ["row", "longer", "place"]
theorem sc_kept_places : FnScope N_kept_places ["row"] (defScope s_kept_places) := ⟨rfl, rfl, rfl, by decide +kernel, rfl, by decide +kernel, by decide +kernel⟩
abbrev s_reduced : Stmt := top 3
abbrev N_reduced : List Str := ["above", "below", "one", "other"]
theorem sc_reduced : FnScope N_reduced ["above", "below"] (defScope s_reduced) := ⟨rfl, rfl, rfl, by decide +kernel, rfl, by decide +kernel, by decide +kernel⟩
abbrev s_all_rows : Stmt := top 5
abbrev N_all_rows : List Str := ["n", "found", "step", "longer", "row", "used", "item"]
theorem sc_all_rows : FnScope N_all_rows ["n"] (defScope s_all_rows) := ⟨rfl, rfl, rfl, by decide +kernel, rfl, by decide +kernel, by decide +kernel⟩
abbrev s_turned_at : Stmt := top 6
abbrev N_turned_at : List Str := ["row", "begin", "end", "item"]
theorem sc_turned_at : FnScope N_turned_at ["row", "begin", "end"] (defScope s_turned_at) := ⟨rfl, rfl, rfl, by decide +kernel, rfl, by decide +kernel, by decide +kernel⟩
abbrev s_all_turns : Stmt := top 7
abbrev N_all_turns : List Str := ["n", "found", "begin", "end"]
theorem sc_all_turns : FnScope N_all_turns ["n"] (defScope s_all_turns) := ⟨rfl, rfl, rfl, by decide +kernel, rfl, by decide +kernel, by decide +kernel⟩
abbrev s_counts_behind : Stmt := top 8
abbrev N_counts_behind : List Str := ["n", "steps", "counts", "turns", "step", "more", "row", "count", "begin", "end", "other"]
theorem sc_counts_behind : FnScope N_counts_behind ["n", "steps"] (defScope s_counts_behind) := ⟨rfl, rfl, rfl, by decide +kernel, rfl, by decide +kernel, by decide +kernel⟩
abbrev s_ways_to : Stmt := top 9
abbrev N_ways_to : List Str := ["n", "steps", "counts", "row"]
theorem sc_ways_to : FnScope N_ways_to ["n", "steps"] (defScope s_ways_to) := ⟨rfl, rfl, rfl, by decide +kernel, rfl, by decide +kernel, by decide +kernel⟩
abbrev s_kept_mean_behind : Stmt := top 10
abbrev N_kept_mean_behind : List Str := ["n", "steps", "counts", "row"]
theorem sc_kept_mean_behind : FnScope N_kept_mean_behind ["n", "steps"] (defScope s_kept_mean_behind) := ⟨rfl, rfl, rfl, by decide +kernel, rfl, by decide +kernel, by decide +kernel⟩
abbrev s_gap_behind : Stmt := top 11
abbrev N_gap_behind : List Str := ["n", "steps", "ways", "many", "whole", "way"]
theorem sc_gap_behind : FnScope N_gap_behind ["n", "steps"] (defScope s_gap_behind) := ⟨rfl, rfl, rfl, by decide +kernel, rfl, by decide +kernel, by decide +kernel⟩
abbrev s_cutting_turns : Stmt := top 12
abbrev N_cutting_turns : List Str := ["n", "place", "begin", "end"]
theorem sc_cutting_turns : FnScope N_cutting_turns ["n", "place"] (defScope s_cutting_turns) := ⟨rfl, rfl, rfl, by decide +kernel, rfl, by decide +kernel, by decide +kernel⟩
abbrev s__law_deck : Stmt := top 14
abbrev N__law_deck : List Str := ["script", "deck", "cell", "own"]
theorem sc__law_deck : FnScope N__law_deck ["script"] (defScope s__law_deck) := ⟨rfl, rfl, rfl, by decide +kernel, rfl, by decide +kernel, by decide +kernel⟩
abbrev s__law_draw : Stmt := top 15
abbrev N__law_draw : List Str := ["deck", "many", "great", "number"]
theorem sc__law_draw : FnScope N__law_draw ["deck", "many"] (defScope s__law_draw) := ⟨rfl, rfl, rfl, by decide +kernel, rfl, by decide +kernel, by decide +kernel⟩
abbrev s__law_pick : Stmt := top 16
abbrev N__law_pick : List Str := ["deck", "row"]
theorem sc__law_pick : FnScope N__law_pick ["deck", "row"] (defScope s__law_pick) := ⟨rfl, rfl, rfl, by decide +kernel, rfl, by decide +kernel, by decide +kernel⟩
abbrev s__law_turned : Stmt := top 17
abbrev N__law_turned : List Str := ["row", "begin", "end", "item"]
theorem sc__law_turned : FnScope N__law_turned ["row", "begin", "end"] (defScope s__law_turned) := ⟨rfl, rfl, rfl, by decide +kernel, rfl, by decide +kernel, by decide +kernel⟩
abbrev s__law_all_rows : Stmt := top 18
abbrev N__law_all_rows : List Str := ["n", "found", "item", "longer", "row", "place"]
theorem sc__law_all_rows : FnScope N__law_all_rows ["n"] (defScope s__law_all_rows) := ⟨rfl, rfl, rfl, by decide +kernel, rfl, by decide +kernel, by decide +kernel⟩
abbrev s__law_counts : Stmt := top 19
abbrev N__law_counts : List Str := ["n", "steps", "rows", "turns", "a", "b", "to", "row", "found", "step", "other"]
theorem sc__law_counts : FnScope N__law_counts ["n", "steps"] (defScope s__law_counts) := ⟨rfl, rfl, rfl, by decide +kernel, rfl, by decide +kernel, by decide +kernel⟩
abbrev s__law_fraction : Stmt := top 20
abbrev N__law_fraction : List Str := ["above", "below", "one", "other"]
theorem sc__law_fraction : FnScope N__law_fraction ["above", "below"] (defScope s__law_fraction) := ⟨rfl, rfl, rfl, by decide +kernel, rfl, by decide +kernel, by decide +kernel⟩
abbrev s__law_means : Stmt := top 21
abbrev N__law_means : List Str := ["n", "steps", "counts", "whole", "kept", "gap", "row", "items", "a", "b"]
theorem sc__law_means : FnScope N__law_means ["n", "steps"] (defScope s__law_means) := ⟨rfl, rfl, rfl, by decide +kernel, rfl, by decide +kernel, by decide +kernel⟩
abbrev s_law : Stmt := top 22
abbrev N_law : List Str := ["script", "deck", "turn", "n", "steps", "mean", "gap", "told", "named", "later", "above", "below", "step", "place", "due", "begin", "end"]
theorem sc_law : FnScope N_law ["script"] (defScope s_law) := ⟨rfl, rfl, rfl, by decide +kernel, rfl, by decide +kernel, by decide +kernel⟩
/-- what the top has written -/
structure Txt (K : PySem.W.Frag) (mg : Str → Option Value) (fa : Nat → Addr) (fd : Nat → FuncData) : Prop where
  d_kept_places : Fun K "kept_places" "kept_places" s_kept_places (fa 0) (fd 0)
  m_kept_places : mg "kept_places" = some (.ref (fa 0))
  d_reduced : Fun K "reduced" "reduced" s_reduced (fa 1) (fd 1)
  m_reduced : mg "reduced" = some (.ref (fa 1))
  d_all_rows : Fun K "all_rows" "all_rows" s_all_rows (fa 2) (fd 2)
  m_all_rows : mg "all_rows" = some (.ref (fa 2))
  d_turned_at : Fun K "turned_at" "turned_at" s_turned_at (fa 3) (fd 3)
  m_turned_at : mg "turned_at" = some (.ref (fa 3))
  d_all_turns : Fun K "all_turns" "all_turns" s_all_turns (fa 4) (fd 4)
  m_all_turns : mg "all_turns" = some (.ref (fa 4))
  d_counts_behind : Fun K "counts_behind" "counts_behind" s_counts_behind (fa 5) (fd 5)
  m_counts_behind : mg "counts_behind" = some (.ref (fa 5))
  d_ways_to : Fun K "ways_to" "ways_to" s_ways_to (fa 6) (fd 6)
  m_ways_to : mg "ways_to" = some (.ref (fa 6))
  d_kept_mean_behind : Fun K "kept_mean_behind" "kept_mean_behind" s_kept_mean_behind (fa 7) (fd 7)
  m_kept_mean_behind : mg "kept_mean_behind" = some (.ref (fa 7))
  d_gap_behind : Fun K "gap_behind" "gap_behind" s_gap_behind (fa 8) (fd 8)
  m_gap_behind : mg "gap_behind" = some (.ref (fa 8))
  d_cutting_turns : Fun K "cutting_turns" "cutting_turns" s_cutting_turns (fa 9) (fd 9)
  m_cutting_turns : mg "cutting_turns" = some (.ref (fa 9))
  d__law_deck : Fun K "_law_deck" "_law_deck" s__law_deck (fa 10) (fd 10)
  m__law_deck : mg "_law_deck" = some (.ref (fa 10))
  d__law_draw : Fun K "_law_draw" "_law_draw" s__law_draw (fa 11) (fd 11)
  m__law_draw : mg "_law_draw" = some (.ref (fa 11))
  d__law_pick : Fun K "_law_pick" "_law_pick" s__law_pick (fa 12) (fd 12)
  m__law_pick : mg "_law_pick" = some (.ref (fa 12))
  d__law_turned : Fun K "_law_turned" "_law_turned" s__law_turned (fa 13) (fd 13)
  m__law_turned : mg "_law_turned" = some (.ref (fa 13))
  d__law_all_rows : Fun K "_law_all_rows" "_law_all_rows" s__law_all_rows (fa 14) (fd 14)
  m__law_all_rows : mg "_law_all_rows" = some (.ref (fa 14))
  d__law_counts : Fun K "_law_counts" "_law_counts" s__law_counts (fa 15) (fd 15)
  m__law_counts : mg "_law_counts" = some (.ref (fa 15))
  d__law_fraction : Fun K "_law_fraction" "_law_fraction" s__law_fraction (fa 16) (fd 16)
  m__law_fraction : mg "_law_fraction" = some (.ref (fa 16))
  d__law_means : Fun K "_law_means" "_law_means" s__law_means (fa 17) (fd 17)
  m__law_means : mg "_law_means" = some (.ref (fa 17))
  d_law : Fun K "law" "law" s_law (fa 18) (fd 18)
  m_law : mg "law" = some (.ref (fa 18))
  abs_ : mg "abs" = none
  dict_ : mg "dict" = none
  int_ : mg "int" = none
  len_ : mg "len" = none
  list_ : mg "list" = none
  range_ : mg "range" = none
  repr_ : mg "repr" = none
  sorted_ : mg "sorted" = none
  sum_ : mg "sum" = none
  tuple_ : mg "tuple" = none
  zip_ : mg "zip" = none
def f_kept_places : DS := (dSeq (dAsg (dOp opAdd (dOp opAdd (dTup (dCons (dLit (.int 0)) dNil)) (dVar 0)) (dTup (dCons (dOp opAdd (dCallB opLen (dCons (dVar 0) dNil)) (dLit (.int 1))) dNil))) (gVar 1))
  (dSeq (dRet (dCallB opTuple (dCons (dLc (dRg1 (dCons (dOp opAdd (dCallB opLen (dCons (dVar 0) dNil)) (dLit (.int 1))) dNil)) (gVar 2) (fun s => asB (dOp opEq (dOp opSub (dOp opIx (dVar 1) (dOp opAdd (dVar 2) (dLit (.int 1)))) (dOp opIx (dVar 1) (dVar 2))) (dLit (.int 1)) s)) (dVar 2) [2]) dNil)))
  dNop))
def D_kept_places : DF := runDef 3 1 f_kept_places
def f_reduced : DS := (dSeq (dPar (dConsP (dCallB opAbs (dCons (dVar 0) dNil)) (dConsP (dVar 1) dNil)) (gsCons (gVar 2) (gsCons (gVar 3) gsNil)))
  (dSeq (dWhile (fun s => asB (dOp opGt (dVar 3) (dLit (.int 0)) s))
   (dSeq (dPar (dConsP (dVar 3) (dConsP (dOp opMod (dVar 2) (dVar 3)) dNil)) (gsCons (gVar 2) (gsCons (gVar 3) gsNil)))
   dNop) turnsMax)
  (dSeq (dRet (dTup (dCons (dOp opFDiv (dVar 0) (dVar 2)) (dCons (dOp opFDiv (dVar 1) (dVar 2)) dNil))))
  dNop)))
def D_reduced : DF := runDef 4 2 f_reduced
def f_all_rows : DS := (dSeq (dAsg (dLst (dCons (dTup dNil) dNil)) (gVar 1))
  (dSeq (dFor (dRg1 (dCons (dVar 0) dNil)) (gVar 2)
   (dSeq (dAsg (dLst dNil) (gVar 3))
   (dSeq (dFor (dAny (dVar 1)) (gVar 4)
    (dSeq (dAsg (dLc (dAny (dVar 4)) (gVar 6) dYes (dCallB opAbs (dCons (dVar 6) dNil)) [6]) (gVar 5))
    (dSeq (dExpr (dMut "list" opExtend (dVar 3) (dCons (dLc (dRg2 (dCons (dOp1 opNeg (dVar 0)) (dCons (dOp opAdd (dVar 0) (dLit (.int 1))) dNil))) (gVar 6) (dAnd (fun s => asB (dOp opNe (dVar 6) (dLit (.int 0)) s)) (fun s => asB (dOp opNotIn (dCallB opAbs (dCons (dVar 6) dNil)) (dVar 5) s))) (dOp opAdd (dVar 4) (dTup (dCons (dVar 6) dNil))) [6]) dNil)))
    dNop)))
   (dSeq (dAsg (dVar 3) (gVar 1))
   dNop))))
  (dSeq (dRet (dCallB opTuple (dCons (dVar 1) dNil)))
  dNop)))
def D_all_rows : DF := runDef 7 1 f_all_rows
def f_turned_at : DS := (dSeq (dRet (dOp opAdd (dOp opAdd (dSlice (dVar 0) dNo (dPart (dVar 1))) (dCallB opTuple (dCons (dLc (dAny (dRev (dSlice (dVar 0) (dPart (dVar 1)) (dPart (dOp opAdd (dVar 2) (dLit (.int 1))))))) (gVar 3) dYes (dOp1 opNeg (dVar 3)) [3]) dNil))) (dSlice (dVar 0) (dPart (dOp opAdd (dVar 2) (dLit (.int 1)))) dNo)))
  dNop)
def D_turned_at : DF := runDef 4 3 f_turned_at
def f_all_turns : DS := (dSeq (dAsg (dLst dNil) (gVar 1))
  (dSeq (dFor (dRg1 (dCons (dVar 0) dNil)) (gVar 2)
   (dSeq (dExpr (dMut "list" opExtend (dVar 1) (dCons (dLc (dRg2 (dCons (dVar 2) (dCons (dVar 0) dNil))) (gVar 3) dYes (dTup (dCons (dVar 2) (dCons (dVar 3) dNil))) [3]) dNil)))
   dNop))
  (dSeq (dRet (dVar 1))
  dNop)))
def D_all_turns : DF := runDef 4 1 f_all_turns
def f_counts_behind : DS := (dSeq (dPar (dConsP (dDisp1 (dRgT2 (dLit (.int 1)) (dOp opAdd (dVar 0) (dLit (.int 1)))) (dLit (.int 1))) (dConsP (dCallF D_all_turns 1 0 [0] (dCons (dVar 0) dNil) dNil) dNil)) (gsCons (gVar 2) (gsCons (gVar 3) gsNil)))
  (dSeq (dFor (dRg1 (dCons (dVar 1) dNil)) (gVar 4)
   (dSeq (dAsg (fun s => some (.fr (.dict []), s)) (gVar 5))
   (dSeq (dFor (dItems (dVar 2)) (gTupD (gsCons (gVar 6) (gsCons (gVar 7) gsNil)))
    (dSeq (dFor (dAny (dVar 3)) (gTupD (gsCons (gVar 8) (gsCons (gVar 9) gsNil)))
     (dSeq (dAsg (dCallF D_turned_at 3 0 [0, 1, 2] (dCons (dVar 6) (dCons (dVar 8) (dCons (dVar 9) dNil))) dNil) (gVar 10))
     (dSeq (dAsg (dOp opAdd (dMet "dict" opGet (dVar 5) (dCons (dVar 10) (dCons (dLit (.int 0)) dNil))) (dVar 7)) (gIx (dVar 5) (dVar 10)))
     dNop)))
    dNop))
   (dSeq (dAsg (dVar 5) (gVar 2))
   dNop))))
  (dSeq (dRet (dVar 2))
  dNop)))
def D_counts_behind : DF := runDef 11 2 f_counts_behind
def f_ways_to : DS := (dSeq (dAsg (dCallF D_counts_behind 2 0 [0, 1] (dCons (dVar 0) (dCons (dVar 1) dNil)) dNil) (gVar 2))
  (dSeq (dRet (dCallB opTuple (dCons (dLc (dAny (dCallF D_all_rows 1 0 [0] (dCons (dVar 0) dNil) dNil)) (gVar 3) dYes (dMet "dict" opGet (dVar 2) (dCons (dVar 3) (dCons (dLit (.int 0)) dNil))) [3]) dNil)))
  dNop))
def D_ways_to : DF := runDef 4 2 f_ways_to
def f_kept_mean_behind : DS := (dSeq (dAsg (dCallF D_counts_behind 2 0 [0, 1] (dCons (dVar 0) (dCons (dVar 1) dNil)) dNil) (gVar 2))
  (dSeq (dRet (dCallF D_reduced 2 0 [0, 1] (dCons (dCallB opSum (dCons (dLc (dAny (dVar 2)) (gVar 3) dYes (dOp opMul (dCallB opLen (dCons (dCallF D_kept_places 1 0 [0] (dCons (dVar 3) dNil) dNil) dNil)) (dOp opIx (dVar 2) (dVar 3))) [3]) dNil)) (dCons (dCallB opSum (dCons (dListV (dVar 2)) dNil)) dNil)) dNil))
  dNop))
def D_kept_mean_behind : DF := runDef 4 2 f_kept_mean_behind
def f_gap_behind : DS := (dSeq (dAsg (dCallF D_ways_to 2 0 [0, 1] (dCons (dVar 0) (dCons (dVar 1) dNil)) dNil) (gVar 2))
  (dSeq (dPar (dConsP (dCallB opLen (dCons (dVar 2) dNil)) (dConsP (dCallB opSum (dCons (dVar 2) dNil)) dNil)) (gsCons (gVar 3) (gsCons (gVar 4) gsNil)))
  (dSeq (dRet (dCallF D_reduced 2 0 [0, 1] (dCons (dCallB opSum (dCons (dLc (dAny (dVar 2)) (gVar 5) dYes (dCallB opAbs (dCons (dOp opSub (dOp opMul (dVar 5) (dVar 3)) (dVar 4)) dNil)) [5]) dNil)) (dCons (dOp opMul (dOp opMul (dLit (.int 2)) (dVar 3)) (dVar 4)) dNil)) dNil))
  dNop)))
def D_gap_behind : DF := runDef 6 2 f_gap_behind
def f_cutting_turns : DS := (dSeq (dRet (dCallB opLen (dCons (dLc (dAny (dCallF D_all_turns 1 0 [0] (dCons (dVar 0) dNil) dNil)) (gTupD (gsCons (gVar 2) (gsCons (gVar 3) gsNil))) (dOr (fun s => asB (dOp opEq (dVar 2) (dVar 1) s)) (fun s => asB (dOp opEq (dVar 3) (dOp opSub (dVar 1) (dLit (.int 1))) s))) (dLit (.int 1)) [2, 3]) dNil)))
  dNop)
def D_cutting_turns : DF := runDef 4 2 f_cutting_turns
def f__law_deck : DS := (dSeq (dAsg (dPotNew (dLst dNil) (dOp opAdd (dLit (.int 1752578)) (dCallB opLen (dCons (dScCut 0 63) dNil))) (dLit (.int 0))) (gVar 1))
  (dSeq (dFor (dAny (dScCut 0 63)) (gVar 2)
   (dSeq (dAsg (dOp opAdd (dOp opMul (dLit (.int 2)) (dCallB opAbs (dCons (dVar 2) dNil))) (dCallB opInt (dCons (dOp opLt (dVar 2) (dLit (.int 0))) dNil))) (gVar 3))
   (dSeq (dIfS (fun s => asB (dOp opGe (dVar 3) (dOp opPow (dLit (.int 10)) (dLit (.int 16))) s))
    (dSeq (dExpr (dGrAppend (dPotGr (dVar 1)) (dCons (dVar 3) dNil)))
    dNop)
    dNop)
   (dSeq (dSetMix (dVar 1) (dOp opMod (dCallB opInt (dCons (dOp opAdd (dOp opAdd (dOp opMul (dPotMix (dVar 1)) (dLit (.int 69621))) (dVar 3)) (dLit (.int 29))) dNil)) (dLit (.int 4294967291))))
   dNop))))
  (dSeq (dRet (dVar 1))
  dNop)))
def D__law_deck : List Int → Option PotSt := runMk 4 f__law_deck
def f__law_draw : DS := (dSeq (dIfS (fun s => asB (dOp opLt (dVar 1) (dLit (.int 2)) s))
   (dSeq (dRet (dLit (.int 0)))
   dNop)
   dNop)
  (dSeq (dIfS (dGrNe (dPotGr (dVar 0)))
   (dSeq (dAsg (dGrPop (dPotGr (dVar 0))) (gVar 2))
   (dSeq (dIfS (fun s => asB (dOp opGe (dVar 2) (dVar 1) s))
    (dSeq (dExpr (dGrAppend (dPotGr (dVar 0)) (dCons (dOp opFDiv (dVar 2) (dVar 1)) dNil)))
    dNop)
    dNop)
   (dSeq (dRet (dOp opMod (dCallB opInt (dCons (dVar 2) dNil)) (dVar 1)))
   dNop)))
   dNop)
  (dSeq (dSetTrn (dVar 0) (dOp opAdd (dPotTrn (dVar 0)) (dLit (.int 1))))
  (dSeq (dAsg (dOp opMod (dCallB opInt (dCons (dOp opAdd (dPotMix (dVar 0)) (dOp opMul (dLit (.int 2654435761)) (dPotTrn (dVar 0)))) dNil)) (dLit (.int 4294967279))) (gVar 3))
  (dSeq (dAsg (dOp opMod (dCallB opInt (dCons (dOp opAdd (dOp opAdd (dOp opMul (dVar 3) (dVar 3)) (dOp opMul (dLit (.int 40692)) (dPotTrn (dVar 0)))) (dLit (.int 23))) dNil)) (dLit (.int 4294967231))) (gVar 3))
  (dSeq (dAsg (dOp opMod (dCallB opInt (dCons (dOp opAdd (dOp opMul (dVar 3) (dVar 3)) (dOp opMul (dPotMix (dVar 0)) (dLit (.int 11)))) dNil)) (dLit (.int 4294967197))) (gVar 3))
  (dSeq (dRet (dOp opMod (dCallB opInt (dCons (dOp opFDiv (dVar 3) (dLit (.int 64))) dNil)) (dVar 1)))
  dNop)))))))
def D__law_draw : DF := runDef 4 2 f__law_draw
def f__law_pick : DS := (dSeq (dRet (dOp opIx (dVar 1) (dCallF D__law_draw 2 0 [0, 1] (dCons (dVar 0) (dCons (dCallB opLen (dCons (dVar 1) dNil)) dNil)) dNil)))
  dNop)
def D__law_pick : DF := runDef 2 2 f__law_pick
def f__law_turned : DS := (dSeq (dRet (dOp opAdd (dOp opAdd (dSlice (dVar 0) dNo (dPart (dVar 1))) (dCallB opTuple (dCons (dLc (dAny (dRev (dSlice (dVar 0) (dPart (dVar 1)) (dPart (dOp opAdd (dVar 2) (dLit (.int 1))))))) (gVar 3) dYes (dOp1 opNeg (dVar 3)) [3]) dNil))) (dSlice (dVar 0) (dPart (dOp opAdd (dVar 2) (dLit (.int 1)))) dNo)))
  dNop)
def D__law_turned : DF := runDef 4 3 f__law_turned
def f__law_all_rows : DS := (dSeq (dAsg (dLst (dCons (dTup dNil) dNil)) (gVar 1))
  (dSeq (dFor (dRg2 (dCons (dLit (.int 1)) (dCons (dOp opAdd (dVar 0) (dLit (.int 1))) dNil))) (gVar 2)
   (dSeq (dAsg (dLst dNil) (gVar 3))
   (dSeq (dFor (dAny (dVar 1)) (gVar 4)
    (dSeq (dFor (dRg1 (dCons (dVar 2) dNil)) (gVar 5)
     (dSeq (dExpr (dMut "list" opExtend (dVar 3) (dCons (dLst (dCons (dOp opAdd (dOp opAdd (dSlice (dVar 4) dNo (dPart (dVar 5))) (dTup (dCons (dVar 2) dNil))) (dSlice (dVar 4) (dPart (dVar 5)) dNo)) (dCons (dOp opAdd (dOp opAdd (dSlice (dVar 4) dNo (dPart (dVar 5))) (dTup (dCons (dOp1 opNeg (dVar 2)) dNil))) (dSlice (dVar 4) (dPart (dVar 5)) dNo)) dNil))) dNil)))
     dNop))
    dNop))
   (dSeq (dAsg (dLc (dAny (dVar 3)) (gVar 4) dYes (dVar 4) [4]) (gVar 1))
   dNop))))
  (dSeq (dRet (dCallB opSorted (dCons (dVar 1) dNil)))
  dNop)))
def D__law_all_rows : DF := runDef 6 1 f__law_all_rows
def f__law_counts : DS := (dSeq (dAsg (dCallF D__law_all_rows 1 0 [0] (dCons (dVar 0) dNil) dNil) (gVar 2))
  (dSeq (dAsg (dLst dNil) (gVar 3))
  (dSeq (dFor (dRg1 (dCons (dVar 0) dNil)) (gVar 4)
   (dSeq (dExpr (dMut "list" opExtend (dVar 3) (dCons (dLc (dRg2 (dCons (dVar 4) (dCons (dVar 0) dNil))) (gVar 5) dYes (dTup (dCons (dVar 4) (dCons (dVar 5) dNil))) [5]) dNil)))
   dNop))
  (dSeq (dAsg (dCallB opDict (dCons (dLc (dAny (dVar 2)) (gVar 7) dYes (dTup (dCons (dVar 7) (dCons (dLc (dAny (dVar 3)) (gTupD (gsCons (gVar 4) (gsCons (gVar 5) gsNil))) dYes (dCallF D__law_turned 3 0 [0, 1, 2] (dCons (dVar 7) (dCons (dVar 4) (dCons (dVar 5) dNil))) dNil) [4, 5]) dNil))) [7]) dNil)) (gVar 6))
  (dSeq (dAsg (dCallB opDict (dCons (dLc (dAny (dVar 2)) (gVar 7) dYes (dTup (dCons (dVar 7) (dCons (dCallB opInt (dCons (dOp opEq (dVar 7) (dRgT2 (dLit (.int 1)) (dOp opAdd (dVar 0) (dLit (.int 1))))) dNil)) dNil))) [7]) dNil)) (gVar 8))
  (dSeq (dFor (dRg1 (dCons (dVar 1) dNil)) (gVar 9)
   (dSeq (dAsg (dCallB opDict (dCons (dLc (dAny (dVar 2)) (gVar 7) dYes (dTup (dCons (dVar 7) (dCons (dCallB opSum (dCons (dLc (dAny (dOp opIx (dVar 6) (dVar 7))) (gVar 10) dYes (dOp opIx (dVar 8) (dVar 10)) [10]) dNil)) dNil))) [7]) dNil)) (gVar 8))
   dNop))
  (dSeq (dRet (dVar 8))
  dNop)))))))
def D__law_counts : DF := runDef 11 2 f__law_counts
def f__law_fraction : DS := (dSeq (dPar (dConsP (dVar 0) (dConsP (dVar 1) dNil)) (gsCons (gVar 2) (gsCons (gVar 3) gsNil)))
  (dSeq (dWhile (fun s => asB (dOp opGt (dVar 3) (dLit (.int 0)) s))
   (dSeq (dPar (dConsP (dVar 3) (dConsP (dOp opMod (dCallB opInt (dCons (dVar 2) dNil)) (dVar 3)) dNil)) (gsCons (gVar 2) (gsCons (gVar 3) gsNil)))
   dNop) turnsMax)
  (dSeq (dRet (dTup (dCons (dOp opFDiv (dVar 0) (dVar 2)) (dCons (dOp opFDiv (dVar 1) (dVar 2)) dNil))))
  dNop)))
def D__law_fraction : DF := runDef 4 2 f__law_fraction
def f__law_means : DS := (dSeq (dAsg (dCallF D__law_counts 2 0 [0, 1] (dCons (dVar 0) (dCons (dVar 1) dNil)) dNil) (gVar 2))
  (dSeq (dPar (dConsP (dSumV (dVar 2)) (dConsP (dLit (.int 0)) (dConsP (dLit (.int 0)) dNil))) (gsCons (gVar 3) (gsCons (gVar 4) (gsCons (gVar 5) gsNil))))
  (dSeq (dFor (dAny (dVar 2)) (gVar 6)
   (dSeq (dAsg (dOp opAdd (dOp opAdd (dTup (dCons (dLit (.int 0)) dNil)) (dVar 6)) (dTup (dCons (dOp opAdd (dVar 0) (dLit (.int 1))) dNil))) (gVar 7))
   (dSeq (dAsg (dOp opAdd (dVar 4) (dOp opMul (dOp opIx (dVar 2) (dVar 6)) (dCallB opLen (dCons (dLc (dZip (dCons (dVar 7) (dCons (dSlice (dVar 7) (dPart (dLit (.int 1))) dNo) dNil))) (gTupD (gsCons (gVar 8) (gsCons (gVar 9) gsNil))) (fun s => asB (dOp opEq (dVar 9) (dOp opAdd (dVar 8) (dLit (.int 1))) s)) (dLit (.int 1)) [8, 9]) dNil)))) (gVar 4))
   (dSeq (dAsg (dOp opAdd (dVar 5) (dCallB opAbs (dCons (dOp opSub (dOp opMul (dOp opIx (dVar 2) (dVar 6)) (dCallB opLen (dCons (dVar 2) dNil))) (dVar 3)) dNil))) (gVar 5))
   dNop))))
  (dSeq (dRet (dTup (dCons (dCallF D__law_fraction 2 0 [0, 1] (dCons (dVar 4) (dCons (dVar 3) dNil)) dNil) (dCons (dCallF D__law_fraction 2 0 [0, 1] (dCons (dVar 5) (dCons (dOp opMul (dOp opMul (dLit (.int 2)) (dVar 3)) (dCallB opLen (dCons (dVar 2) dNil))) dNil)) dNil) dNil))))
  dNop))))
def D__law_means : DF := runDef 10 2 f__law_means
def f_law : DS := (dSeq (dAsg (dMk D__law_deck 0) (gVar 1))
  (dSeq (dFor (dRg1 (dCons (dLit (.int 2)) dNil)) (gVar 2)
   (dSeq (dPar (dConsP (dOp opAdd (dLit (.int 1)) (dCallF D__law_draw 2 0 [0, 1] (dCons (dVar 1) (dCons (dLit (.int 3)) dNil)) dNil)) (dConsP (dCallF D__law_draw 2 0 [0, 1] (dCons (dVar 1) (dCons (dLit (.int 12)) dNil)) dNil) dNil)) (gsCons (gVar 3) (gsCons (gVar 4) gsNil)))
   (dSeq (dAsg (dCallF D__law_means 2 0 [0, 1] (dCons (dVar 3) (dCons (dVar 4) dNil)) dNil) (gTupD (gsCons (gVar 5) (gsCons (gVar 6) gsNil))))
   (dSeq (dAsg (dLst (dCons (dCallF D_kept_mean_behind 2 0 [0, 1] (dCons (dVar 3) (dCons (dVar 4) dNil)) dNil) (dCons (dCallF D_gap_behind 2 0 [0, 1] (dCons (dVar 3) (dCons (dVar 4) dNil)) dNil) dNil))) (gVar 7))
   (dSeq (dAsg (dLst (dCons (dCallF D_kept_mean_behind 0 2 [1, 0] dNil (dCons (dVar 4) (dCons (dVar 3) dNil))) (dCons (dCallF D_gap_behind 0 2 [1, 0] dNil (dCons (dVar 4) (dCons (dVar 3) dNil))) dNil))) (gVar 8))
   (dSeq (dIfS (dNeRepr (dLst (dCons (dVar 7) (dCons (dVar 8) dNil))) (dOp opMul (dLst (dCons (dLst (dCons (dVar 5) (dCons (dVar 6) dNil))) dNil)) (dLit (.int 2))))
    (dSeq (dRet (dLit (.bool false)))
    dNop)
    dNop)
   (dSeq (dAsg (dCallF D_gap_behind 2 0 [0, 1] (dCons (dVar 3) (dCons (dOp opAdd (dVar 4) (dLit (.int 1))) dNil)) dNil) (gVar 9))
   (dSeq (dIfS (dOr (dAnd (fun s => asB (dOp opEq (dVar 3) (dLit (.int 3)) s)) (fun s => asB (dOp opGt (dOp opMul (dOp opIx (dVar 9) (dLit (.int 0))) (dOp opIx (dVar 6) (dLit (.int 1)))) (dOp opMul (dOp opIx (dVar 6) (dLit (.int 0))) (dOp opIx (dVar 9) (dLit (.int 1)))) s))) (dAnd (fun s => asB (dOp opLt (dVar 3) (dLit (.int 3)) s)) (fun s => asB (dOp opLt (dOp opMul (dLit (.int 2)) (dOp opIx (dVar 6) (dLit (.int 0)))) (dOp opIx (dVar 6) (dLit (.int 1))) s))))
    (dSeq (dRet (dLit (.bool false)))
    dNop)
    dNop)
   (dSeq (dPar (dConsP (dOp opAdd (dVar 3) (dLit (.int 1))) (dConsP (dLit (.int 1)) dNil)) (gsCons (gVar 10) (gsCons (gVar 11) gsNil)))
   (dSeq (dFor (dRg1 (dCons (dVar 4) dNil)) (gVar 12)
    (dSeq (dPar (dConsP (dOp opMul (dVar 10) (dOp opSub (dVar 3) (dLit (.int 1)))) (dConsP (dOp opMul (dVar 11) (dOp opAdd (dVar 3) (dLit (.int 1)))) dNil)) (gsCons (gVar 10) (gsCons (gVar 11) gsNil)))
    dNop))
   (dSeq (dIfS (fun s => asB (dOp opLt (dOp opMul (dOp opIx (dVar 5) (dLit (.int 0))) (dVar 11)) (dOp opMul (dVar 10) (dOp opIx (dVar 5) (dLit (.int 1)))) s))
    (dSeq (dRet (dLit (.bool false)))
    dNop)
    dNop)
   dNop)))))))))))
  (dSeq (dFor (dRg1 (dCons (dLit (.int 4)) dNil)) (gVar 2)
   (dSeq (dAsg (dCallF D__law_pick 2 0 [0, 1] (dCons (dVar 1) (dCons (dLst (dCons (dLit (.int 1)) (dCons (dLit (.int 3)) (dCons (dOp opAdd (dLit (.int 1)) (dCallF D__law_draw 2 0 [0, 1] (dCons (dVar 1) (dCons (dLit (.int 24)) dNil)) dNil)) (dCons (dLit (.int 24)) dNil))))) dNil)) dNil) (gVar 3))
   (dSeq (dPar (dConsP (dCallF D__law_draw 2 0 [0, 1] (dCons (dVar 1) (dCons (dOp opAdd (dVar 3) (dLit (.int 1))) dNil)) dNil) (dConsP (dLit (.int 0)) dNil)) (gsCons (gVar 13) (gsCons (gVar 14) gsNil)))
   (dSeq (dFor (dRg1 (dCons (dVar 3) dNil)) (gVar 15)
    (dSeq (dAsg (dOp opAdd (dVar 14) (dCallB opLen (dCons (dLc (dRg2 (dCons (dVar 15) (dCons (dVar 3) dNil))) (gVar 16) (dOr (fun s => asB (dOp opEq (dVar 15) (dVar 13) s)) (fun s => asB (dOp opEq (dVar 16) (dOp opSub (dVar 13) (dLit (.int 1))) s))) (dVar 16) [16]) dNil))) (gVar 14))
    dNop))
   (dSeq (dIfS (dOr (dNeRepr (dLst (dCons (dCallF D_cutting_turns 2 0 [0, 1] (dCons (dVar 3) (dCons (dVar 13) dNil)) dNil) (dCons (dCallF D_cutting_turns 0 2 [1, 0] dNil (dCons (dVar 13) (dCons (dVar 3) dNil))) dNil))) (dLst (dCons (dVar 14) (dCons (dVar 14) dNil)))) (fun s => asB (dOp opNe (dVar 14) (dVar 3) s)))
    (dSeq (dRet (dLit (.bool false)))
    dNop)
    dNop)
   dNop)))))
  (dSeq (dRet (dLit (.bool true)))
  dNop))))
section
variable {P : Program} {w : World} {K : PySem.W.Frag} {mg : Str → Option Value} {base : Heap} {fa : Nat → Addr} {fd : Nat → FuncData}
theorem c_kept_places (T : Txt K mg fa fd) : FnG P w K mg base 1 (fa 0) (fd 0) ["row"] (spD P w K potK 1 D_kept_places) := by
  refine fn_D (N := N_kept_places) (fs := f_kept_places) T.d_kept_places sc_kept_places (fun cdv A outer s H B ft hL => ?_)
  have gl : GrLay B.L := by rw [hL]; exact grLay_D
  unfold f_kept_places
  exact (eb_cons (es_set (i := 1) sc_kept_places.nd rfl (by first | exact Or.inl rfl | exact Or.inr rfl) (ev_bin opAdd_ok (ev_bin opAdd_ok (ev_tup (ea_cons ev_int ea_nil)) (ev_v 0)) (ev_tup (ea_cons (ev_bin opAdd_ok (ev_callB (len_ok ft) (by rfl) T.len_ bt_len (ea_cons (ev_v 0) ea_nil)) ev_int) ea_nil))))
  (eb_cons (es_ret (ev_callTy (tuple_ok ft) (by rfl) T.tuple_ bt_tuple (ea_cons (ev_lc ft sc_kept_places.nd (ei_rg1 (by rfl) T.range_ (ea_cons (ev_bin opAdd_ok (ev_callB (len_ok ft) (by rfl) T.len_ bt_len (ea_cons (ev_v 0) ea_nil)) ev_int) ea_nil)) (blkOk_by (own := [("place", 2)]) (N := N_kept_places) (sc := defScope s_kept_places) (by decide +kernel)) (fun _ _ _ _ _ => (eg_n 2 sc_kept_places.nd)) (by decide) (fun _ _ _ _ _ => (ets_one (et_cmp (opEq_ok (Fit.blk ft)) (ev_bin opSub_ok (ev_ix (Fit.blk ft) (ev_v 1) (ev_bin opAdd_ok (ev_v 2) ev_int) (by intro _ _; rfl)) (ev_ix (Fit.blk ft) (ev_v 1) (ev_v 2) (by intro _ _; rfl))) ev_int))) (fun _ _ _ _ _ => (ev_v 2))) ea_nil)))
  eb_nil))
theorem c_reduced (T : Txt K mg fa fd) : FnG P w K mg base 1 (fa 1) (fd 1) ["above", "below"] (spD P w K potK 2 D_reduced) := by
  refine fn_D (N := N_reduced) (fs := f_reduced) T.d_reduced sc_reduced (fun cdv A outer s H B ft hL => ?_)
  have gl : GrLay B.L := by rw [hL]; exact grLay_D
  unfold f_reduced
  exact (eb_cons (es_par2 (m := 2) (n := 3) ft sc_reduced.nd rfl rfl (by decide) rfl rfl (ea_consP (ev_callB abs_ok (by rfl) T.abs_ bt_abs (ea_cons (ev_v 0) ea_nil)) (ea_consP (ev_v 1) ea_nil)))
  (eb_cons (es_while PassesOwn.never (et_cmp opGt_ok (ev_v 3) ev_int)
   (eb_cons (es_par2 (m := 2) (n := 3) ft sc_reduced.nd rfl rfl (by decide) rfl rfl (ea_consP (ev_v 3) (ea_consP (ev_bin opMod_ok (ev_v 2) (ev_v 3)) ea_nil)))
   eb_nil))
  (eb_cons (es_ret (ev_tup (ea_cons (ev_bin opFDiv_ok (ev_v 0) (ev_v 2)) (ea_cons (ev_bin opFDiv_ok (ev_v 1) (ev_v 2)) ea_nil))))
  eb_nil)))
theorem c_all_rows (T : Txt K mg fa fd) : FnG P w K mg base 1 (fa 2) (fd 2) ["n"] (spD P w K potK 1 D_all_rows) := by
  refine fn_D (N := N_all_rows) (fs := f_all_rows) T.d_all_rows sc_all_rows (fun cdv A outer s H B ft hL => ?_)
  have gl : GrLay B.L := by rw [hL]; exact grLay_D
  unfold f_all_rows
  exact (eb_cons (es_set (i := 1) sc_all_rows.nd rfl (by first | exact Or.inl rfl | exact Or.inr rfl) (ev_lst (ea_cons (ev_tup ea_nil) ea_nil)))
  (eb_cons (es_for ft PassesOwn.never (ei_rg1 (by rfl) T.range_ (ea_cons (ev_v 0) ea_nil)) (eg_n 2 sc_all_rows.nd)
   (eb_cons (es_set (i := 3) sc_all_rows.nd rfl (by first | exact Or.inl rfl | exact Or.inr rfl) (ev_lst ea_nil))
   (eb_cons (es_for ft PassesOwn.never (ei_any ft (ev_v 1)) (eg_n 4 sc_all_rows.nd)
    (eb_cons (es_set (i := 5) sc_all_rows.nd rfl (by first | exact Or.inl rfl | exact Or.inr rfl) (ev_lc ft sc_all_rows.nd (ei_any ft (ev_v 4)) (blkOk_by (own := [("item", 6)]) (N := N_all_rows) (sc := defScope s_all_rows) (by decide +kernel)) (fun _ _ _ _ _ => (eg_n 6 sc_all_rows.nd)) (by decide) (fun _ _ _ _ _ => ets_nil) (fun _ _ _ _ _ => (ev_callB abs_ok (by rfl) T.abs_ bt_abs (ea_cons (ev_v 6) ea_nil)))))
    (eb_cons (es_expr (ev_mut ft PySem.F.plainAttrs_list PySem.F.slot_list_extend PySem.F.type_list_extend (extend_ok ft) (ev_v 3) (ea_cons (ev_lc ft sc_all_rows.nd (ei_rg2 (by rfl) T.range_ (ea_cons (ev_neg (ev_v 0)) (ea_cons (ev_bin opAdd_ok (ev_v 0) ev_int) ea_nil))) (blkOk_by (own := [("item", 6)]) (N := N_all_rows) (sc := defScope s_all_rows) (by decide +kernel)) (fun _ _ _ _ _ => (eg_n 6 sc_all_rows.nd)) (by decide) (fun _ _ _ _ _ => (ets_one (EW.et (ew_and (et_cmp (opNe_ok (Fit.blk ft)) (ev_v 6) ev_int) (ew_and1 (et_cmp (opNotIn_ok (Fit.blk ft)) (ev_callB abs_ok (by rfl) T.abs_ bt_abs (ea_cons (ev_v 6) ea_nil)) (ev_v 5))))))) (fun _ _ _ _ _ => (ev_bin opAdd_ok (ev_v 4) (ev_tup (ea_cons (ev_v 6) ea_nil))))) ea_nil)))
    eb_nil)))
   (eb_cons (es_set (i := 1) sc_all_rows.nd rfl (by first | exact Or.inl rfl | exact Or.inr rfl) (ev_v 3))
   eb_nil))))
  (eb_cons (es_ret (ev_callTy (tuple_ok ft) (by rfl) T.tuple_ bt_tuple (ea_cons (ev_v 1) ea_nil)))
  eb_nil)))
theorem c_turned_at (T : Txt K mg fa fd) : FnG P w K mg base 1 (fa 3) (fd 3) ["row", "begin", "end"] (spD P w K potK 3 D_turned_at) := by
  refine fn_D (N := N_turned_at) (fs := f_turned_at) T.d_turned_at sc_turned_at (fun cdv A outer s H B ft hL => ?_)
  have gl : GrLay B.L := by rw [hL]; exact grLay_D
  unfold f_turned_at
  exact (eb_cons (es_ret (ev_bin opAdd_ok (ev_bin opAdd_ok (ev_slice ft (ev_v 0) eo_no (eo_some (ev_v 1))) (ev_callTy (tuple_ok ft) (by rfl) T.tuple_ bt_tuple (ea_cons (ev_lc ft sc_turned_at.nd (ei_any ft (ev_rev (ev_slice ft (ev_v 0) (eo_some (ev_v 1)) (eo_some (ev_bin opAdd_ok (ev_v 2) ev_int))))) (blkOk_by (own := [("item", 3)]) (N := N_turned_at) (sc := defScope s_turned_at) (by decide +kernel)) (fun _ _ _ _ _ => (eg_n 3 sc_turned_at.nd)) (by decide) (fun _ _ _ _ _ => ets_nil) (fun _ _ _ _ _ => (ev_neg (ev_v 3)))) ea_nil))) (ev_slice ft (ev_v 0) (eo_some (ev_bin opAdd_ok (ev_v 2) ev_int)) eo_no)))
  eb_nil)
theorem c_all_turns (T : Txt K mg fa fd) : FnG P w K mg base 1 (fa 4) (fd 4) ["n"] (spD P w K potK 1 D_all_turns) := by
  refine fn_D (N := N_all_turns) (fs := f_all_turns) T.d_all_turns sc_all_turns (fun cdv A outer s H B ft hL => ?_)
  have gl : GrLay B.L := by rw [hL]; exact grLay_D
  unfold f_all_turns
  exact (eb_cons (es_set (i := 1) sc_all_turns.nd rfl (by first | exact Or.inl rfl | exact Or.inr rfl) (ev_lst ea_nil))
  (eb_cons (es_for ft PassesOwn.never (ei_rg1 (by rfl) T.range_ (ea_cons (ev_v 0) ea_nil)) (eg_n 2 sc_all_turns.nd)
   (eb_cons (es_expr (ev_mut ft PySem.F.plainAttrs_list PySem.F.slot_list_extend PySem.F.type_list_extend (extend_ok ft) (ev_v 1) (ea_cons (ev_lc ft sc_all_turns.nd (ei_rg2 (by rfl) T.range_ (ea_cons (ev_v 2) (ea_cons (ev_v 0) ea_nil))) (blkOk_by (own := [("end", 3)]) (N := N_all_turns) (sc := defScope s_all_turns) (by decide +kernel)) (fun _ _ _ _ _ => (eg_n 3 sc_all_turns.nd)) (by decide) (fun _ _ _ _ _ => ets_nil) (fun _ _ _ _ _ => (ev_tup (ea_cons (ev_v 2) (ea_cons (ev_v 3) ea_nil))))) ea_nil)))
   eb_nil))
  (eb_cons (es_ret (ev_v 1))
  eb_nil)))
theorem c_counts_behind (T : Txt K mg fa fd) : FnG P w K mg base 2 (fa 5) (fd 5) ["n", "steps"] (spD P w K potK 2 D_counts_behind) := by
  refine fn_D (N := N_counts_behind) (fs := f_counts_behind) T.d_counts_behind sc_counts_behind (fun cdv A outer s H B ft hL => ?_)
  have gl : GrLay B.L := by rw [hL]; exact grLay_D
  have c_all_turns := c_all_turns (P := P) (w := w) (base := base) T
  rw [← hL] at c_all_turns
  have c_turned_at := c_turned_at (P := P) (w := w) (base := base) T
  rw [← hL] at c_turned_at
  unfold f_counts_behind
  exact (eb_cons (es_par2 (m := 2) (n := 3) ft sc_counts_behind.nd rfl rfl (by decide) rfl rfl (ea_consP (ev_disp1 ft (ev_rgT2 ft (by rfl) T.tuple_ (by rfl) T.range_ ev_int (ev_bin opAdd_ok (ev_v 0) ev_int)) ev_int) (ea_consP (ev_call (ord := [0]) ft (c_all_turns.mono (by decide)) (by rfl) T.m_all_turns T.d_all_turns.kp (KB.of T.d_all_turns fun _ _ _ _ _ _ us ws h1 h2 => match us, ws, h1, h2 with | [_], [], _, _ => rfl) (ea_cons (ev_v 0) ea_nil)) ea_nil)))
  (eb_cons (es_for ft PassesOwn.never (ei_rg1 (by rfl) T.range_ (ea_cons (ev_v 1) ea_nil)) (eg_n 4 sc_counts_behind.nd)
   (eb_cons (es_set (i := 5) sc_counts_behind.nd rfl (by first | exact Or.inl rfl | exact Or.inr rfl) ev_dict0)
   (eb_cons (es_for ft PassesOwn.never (ei_items ft (ev_v 2)) (eg_tup ft (egs_cons (eg_n 6 sc_counts_behind.nd) (egs_cons (eg_n 7 sc_counts_behind.nd) egs_nil)) (hlen := (gsCons_len (gsCons_len gsNil_len))))
    (eb_cons (es_for ft PassesOwn.never (ei_any ft (ev_v 3)) (eg_tup ft (egs_cons (eg_n 8 sc_counts_behind.nd) (egs_cons (eg_n 9 sc_counts_behind.nd) egs_nil)) (hlen := (gsCons_len (gsCons_len gsNil_len))))
     (eb_cons (es_set (i := 10) sc_counts_behind.nd rfl (by first | exact Or.inl rfl | exact Or.inr rfl) (ev_call (ord := [0, 1, 2]) ft (c_turned_at.mono (by decide)) (by rfl) T.m_turned_at T.d_turned_at.kp (KB.of T.d_turned_at fun _ _ _ _ _ _ us ws h1 h2 => match us, ws, h1, h2 with | [_, _, _], [], _, _ => rfl) (ea_cons (ev_v 6) (ea_cons (ev_v 8) (ea_cons (ev_v 9) ea_nil)))))
     (eb_cons (es_asg (ev_bin opAdd_ok (ev_met ft PySem.F.plainAttrs_dict PySem.F.slot_dict_get PySem.F.type_dict_get (get_ok ft) (ev_v 5) (ea_cons (ev_v 10) (ea_cons ev_int ea_nil))) (ev_v 7)) (eg_ix ft (ev_v 5) (ev_v 10)))
     eb_nil)))
    eb_nil))
   (eb_cons (es_set (i := 2) sc_counts_behind.nd rfl (by first | exact Or.inl rfl | exact Or.inr rfl) (ev_v 5))
   eb_nil))))
  (eb_cons (es_ret (ev_v 2))
  eb_nil)))
theorem c_ways_to (T : Txt K mg fa fd) : FnG P w K mg base 3 (fa 6) (fd 6) ["n", "steps"] (spD P w K potK 2 D_ways_to) := by
  refine fn_D (N := N_ways_to) (fs := f_ways_to) T.d_ways_to sc_ways_to (fun cdv A outer s H B ft hL => ?_)
  have gl : GrLay B.L := by rw [hL]; exact grLay_D
  have c_counts_behind := c_counts_behind (P := P) (w := w) (base := base) T
  rw [← hL] at c_counts_behind
  have c_all_rows := c_all_rows (P := P) (w := w) (base := base) T
  rw [← hL] at c_all_rows
  unfold f_ways_to
  exact (eb_cons (es_set (i := 2) sc_ways_to.nd rfl (by first | exact Or.inl rfl | exact Or.inr rfl) (ev_call (ord := [0, 1]) ft (c_counts_behind.mono (by decide)) (by rfl) T.m_counts_behind T.d_counts_behind.kp (KB.of T.d_counts_behind fun _ _ _ _ _ _ us ws h1 h2 => match us, ws, h1, h2 with | [_, _], [], _, _ => rfl) (ea_cons (ev_v 0) (ea_cons (ev_v 1) ea_nil))))
  (eb_cons (es_ret (ev_callTy (tuple_ok ft) (by rfl) T.tuple_ bt_tuple (ea_cons (ev_lc ft sc_ways_to.nd (ei_any ft (ev_call (ord := [0]) ft (c_all_rows.mono (by decide)) (by rfl) T.m_all_rows T.d_all_rows.kp (KB.of T.d_all_rows fun _ _ _ _ _ _ us ws h1 h2 => match us, ws, h1, h2 with | [_], [], _, _ => rfl) (ea_cons (ev_v 0) ea_nil))) (blkOk_by (own := [("row", 3)]) (N := N_ways_to) (sc := defScope s_ways_to) (by decide +kernel)) (fun _ _ _ _ _ => (eg_n 3 sc_ways_to.nd)) (by decide) (fun _ _ _ _ _ => ets_nil) (fun _ _ _ _ _ => (ev_met (Fit.blk ft) PySem.F.plainAttrs_dict PySem.F.slot_dict_get PySem.F.type_dict_get (get_ok (Fit.blk ft)) (ev_v 2) (ea_cons (ev_v 3) (ea_cons ev_int ea_nil))))) ea_nil)))
  eb_nil))
theorem c_kept_mean_behind (T : Txt K mg fa fd) : FnG P w K mg base 3 (fa 7) (fd 7) ["n", "steps"] (spD P w K potK 2 D_kept_mean_behind) := by
  refine fn_D (N := N_kept_mean_behind) (fs := f_kept_mean_behind) T.d_kept_mean_behind sc_kept_mean_behind (fun cdv A outer s H B ft hL => ?_)
  have gl : GrLay B.L := by rw [hL]; exact grLay_D
  have c_counts_behind := c_counts_behind (P := P) (w := w) (base := base) T
  rw [← hL] at c_counts_behind
  have c_reduced := c_reduced (P := P) (w := w) (base := base) T
  rw [← hL] at c_reduced
  have c_kept_places := c_kept_places (P := P) (w := w) (base := base) T
  rw [← hL] at c_kept_places
  unfold f_kept_mean_behind
  exact (eb_cons (es_set (i := 2) sc_kept_mean_behind.nd rfl (by first | exact Or.inl rfl | exact Or.inr rfl) (ev_call (ord := [0, 1]) ft (c_counts_behind.mono (by decide)) (by rfl) T.m_counts_behind T.d_counts_behind.kp (KB.of T.d_counts_behind fun _ _ _ _ _ _ us ws h1 h2 => match us, ws, h1, h2 with | [_, _], [], _, _ => rfl) (ea_cons (ev_v 0) (ea_cons (ev_v 1) ea_nil))))
  (eb_cons (es_ret (ev_call (ord := [0, 1]) ft (c_reduced.mono (by decide)) (by rfl) T.m_reduced T.d_reduced.kp (KB.of T.d_reduced fun _ _ _ _ _ _ us ws h1 h2 => match us, ws, h1, h2 with | [_, _], [], _, _ => rfl) (ea_cons (ev_callB (sum_ok ft) (by rfl) T.sum_ bt_sum (ea_cons (ev_lc ft sc_kept_mean_behind.nd (ei_any ft (ev_v 2)) (blkOk_by (own := [("row", 3)]) (N := N_kept_mean_behind) (sc := defScope s_kept_mean_behind) (by decide +kernel)) (fun _ _ _ _ _ => (eg_n 3 sc_kept_mean_behind.nd)) (by decide) (fun _ _ _ _ _ => ets_nil) (fun _ _ _ _ _ => (ev_bin opMul_ok (ev_callB (len_ok (Fit.blk ft)) (by rfl) T.len_ bt_len (ea_cons (ev_call (ord := [0]) (Fit.blk ft) (c_kept_places.mono (by decide)) (by rfl) T.m_kept_places T.d_kept_places.kp (KB.of T.d_kept_places fun _ _ _ _ _ _ us ws h1 h2 => match us, ws, h1, h2 with | [_], [], _, _ => rfl) (ea_cons (ev_v 3) ea_nil)) ea_nil)) (ev_ix (Fit.blk ft) (ev_v 2) (ev_v 3) (by intro _ _; rfl))))) ea_nil)) (ea_cons (ev_callB (sum_ok ft) (by rfl) T.sum_ bt_sum (ea_cons (ev_listV ft (by rfl) T.list_ bt_list (ev_v 2)) ea_nil)) ea_nil))))
  eb_nil))
theorem c_gap_behind (T : Txt K mg fa fd) : FnG P w K mg base 4 (fa 8) (fd 8) ["n", "steps"] (spD P w K potK 2 D_gap_behind) := by
  refine fn_D (N := N_gap_behind) (fs := f_gap_behind) T.d_gap_behind sc_gap_behind (fun cdv A outer s H B ft hL => ?_)
  have gl : GrLay B.L := by rw [hL]; exact grLay_D
  have c_ways_to := c_ways_to (P := P) (w := w) (base := base) T
  rw [← hL] at c_ways_to
  have c_reduced := c_reduced (P := P) (w := w) (base := base) T
  rw [← hL] at c_reduced
  unfold f_gap_behind
  exact (eb_cons (es_set (i := 2) sc_gap_behind.nd rfl (by first | exact Or.inl rfl | exact Or.inr rfl) (ev_call (ord := [0, 1]) ft (c_ways_to.mono (by decide)) (by rfl) T.m_ways_to T.d_ways_to.kp (KB.of T.d_ways_to fun _ _ _ _ _ _ us ws h1 h2 => match us, ws, h1, h2 with | [_, _], [], _, _ => rfl) (ea_cons (ev_v 0) (ea_cons (ev_v 1) ea_nil))))
  (eb_cons (es_par ft (ea_consP (ev_callB (len_ok ft) (by rfl) T.len_ bt_len (ea_cons (ev_v 2) ea_nil)) (ea_consP (ev_callB (sum_ok ft) (by rfl) T.sum_ bt_sum (ea_cons (ev_v 2) ea_nil)) ea_nil)) (egs_cons (eg_n 3 sc_gap_behind.nd) (egs_cons (eg_n 4 sc_gap_behind.nd) egs_nil)) (hlen := (gsCons_len (gsCons_len gsNil_len))))
  (eb_cons (es_ret (ev_call (ord := [0, 1]) ft (c_reduced.mono (by decide)) (by rfl) T.m_reduced T.d_reduced.kp (KB.of T.d_reduced fun _ _ _ _ _ _ us ws h1 h2 => match us, ws, h1, h2 with | [_, _], [], _, _ => rfl) (ea_cons (ev_callB (sum_ok ft) (by rfl) T.sum_ bt_sum (ea_cons (ev_lc ft sc_gap_behind.nd (ei_any ft (ev_v 2)) (blkOk_by (own := [("way", 5)]) (N := N_gap_behind) (sc := defScope s_gap_behind) (by decide +kernel)) (fun _ _ _ _ _ => (eg_n 5 sc_gap_behind.nd)) (by decide) (fun _ _ _ _ _ => ets_nil) (fun _ _ _ _ _ => (ev_callB abs_ok (by rfl) T.abs_ bt_abs (ea_cons (ev_bin opSub_ok (ev_bin opMul_ok (ev_v 5) (ev_v 3)) (ev_v 4)) ea_nil)))) ea_nil)) (ea_cons (ev_bin opMul_ok (ev_bin opMul_ok ev_int (ev_v 3)) (ev_v 4)) ea_nil))))
  eb_nil)))
theorem c_cutting_turns (T : Txt K mg fa fd) : FnG P w K mg base 2 (fa 9) (fd 9) ["n", "place"] (spD P w K potK 2 D_cutting_turns) := by
  refine fn_D (N := N_cutting_turns) (fs := f_cutting_turns) T.d_cutting_turns sc_cutting_turns (fun cdv A outer s H B ft hL => ?_)
  have gl : GrLay B.L := by rw [hL]; exact grLay_D
  have c_all_turns := c_all_turns (P := P) (w := w) (base := base) T
  rw [← hL] at c_all_turns
  unfold f_cutting_turns
  exact (eb_cons (es_ret (ev_callB (len_ok ft) (by rfl) T.len_ bt_len (ea_cons (ev_lc ft sc_cutting_turns.nd (ei_any ft (ev_call (ord := [0]) ft (c_all_turns.mono (by decide)) (by rfl) T.m_all_turns T.d_all_turns.kp (KB.of T.d_all_turns fun _ _ _ _ _ _ us ws h1 h2 => match us, ws, h1, h2 with | [_], [], _, _ => rfl) (ea_cons (ev_v 0) ea_nil))) (blkOk_by (own := [("begin", 2), ("end", 3)]) (N := N_cutting_turns) (sc := defScope s_cutting_turns) (by decide +kernel)) (fun _ _ _ _ _ => (eg_tup (Fit.blk ft) (egs_cons (eg_n 2 sc_cutting_turns.nd) (egs_cons (eg_n 3 sc_cutting_turns.nd) egs_nil)) (hlen := (gsCons_len (gsCons_len gsNil_len))))) (by decide) (fun _ _ _ _ _ => (ets_one (EW.et (ew_or (et_cmp (opEq_ok (Fit.blk ft)) (ev_v 2) (ev_v 1)) (ew_or1 (et_cmp (opEq_ok (Fit.blk ft)) (ev_v 3) (ev_bin opSub_ok (ev_v 1) ev_int))))))) (fun _ _ _ _ _ => ev_int)) ea_nil)))
  eb_nil)
theorem c__law_deck (T : Txt K mg fa fd) : FnG P w K mg base 1 (fa 10) (fd 10) ["script"] (spMk K potK D__law_deck) := by
  refine fn_mk (N := N__law_deck) (fs := f__law_deck) T.d__law_deck sc__law_deck (by decide) (fun cdv A outer s H B ft hL h0 => ?_)
  have gl : GrLay B.L := by rw [hL]; exact grLay_D
  unfold f__law_deck
  exact (eb_cons (es_set (i := 1) sc__law_deck.nd rfl (by first | exact Or.inl rfl | exact Or.inr rfl) (ev_potNew ft hL kys (ev_lst ea_nil) (ev_bin opAdd_ok ev_int (ev_callB (len_ok ft) (by rfl) T.len_ bt_len (ea_cons (ev_scCut (i := 0) ft h0 rfl (by first | exact Or.inl rfl | exact Or.inr (Or.inl rfl) | exact Or.inr (Or.inr rfl))) ea_nil))) ev_int))
  (eb_cons (es_for ft PassesOwn.never (ei_any ft (ev_scCut (i := 0) ft h0 rfl (by first | exact Or.inl rfl | exact Or.inr (Or.inl rfl) | exact Or.inr (Or.inr rfl)))) (eg_n 2 sc__law_deck.nd)
   (eb_cons (es_set (i := 3) sc__law_deck.nd rfl (by first | exact Or.inl rfl | exact Or.inr rfl) (ev_bin opAdd_ok (ev_bin opMul_ok ev_int (ev_callB abs_ok (by rfl) T.abs_ bt_abs (ea_cons (ev_v 2) ea_nil))) (ev_callTy int_ok (by rfl) T.int_ bt_int (ea_cons (ev_cmp opLt_ok (ev_v 2) ev_int) ea_nil))))
   (eb_cons (es_if (et_cmp opGe_ok (ev_v 3) (ev_bin opPow_ok ev_int ev_int))
    (eb_cons (es_expr (ev_grAppend ft gl (ev_potGr ft hL kys (ev_v 1) (by intro _ _; rfl)) (ea_cons (ev_v 3) ea_nil)))
    eb_nil)
    eb_nil)
   (eb_cons (es_setMix ft hL kys (ev_v 1) (ev_bin opMod_ok (ev_callTy int_ok (by rfl) T.int_ bt_int (ea_cons (ev_bin opAdd_ok (ev_bin opAdd_ok (ev_bin opMul_ok (ev_potMix ft hL kys (ev_v 1) (by intro _ _; rfl)) ev_int) (ev_v 3)) ev_int) ea_nil)) ev_int))
   eb_nil))))
  (eb_cons (es_ret (ev_v 1))
  eb_nil)))
theorem c__law_draw (T : Txt K mg fa fd) : FnG P w K mg base 1 (fa 11) (fd 11) ["deck", "many"] (spD P w K potK 2 D__law_draw) := by
  refine fn_D (N := N__law_draw) (fs := f__law_draw) T.d__law_draw sc__law_draw (fun cdv A outer s H B ft hL => ?_)
  have gl : GrLay B.L := by rw [hL]; exact grLay_D
  unfold f__law_draw
  exact (eb_cons (es_if (et_cmp opLt_ok (ev_v 1) ev_int)
   (eb_cons (es_ret ev_int)
   eb_nil)
   eb_nil)
  (eb_cons (es_if (et_grNe ft gl (ev_potGr ft hL kys (ev_v 0) (by intro _ _; rfl)))
   (eb_cons (es_set (i := 2) sc__law_draw.nd rfl (by first | exact Or.inl rfl | exact Or.inr rfl) (ev_grPop ft gl (ev_potGr ft hL kys (ev_v 0) (by intro _ _; rfl))))
   (eb_cons (es_if (et_cmp opGe_ok (ev_v 2) (ev_v 1))
    (eb_cons (es_expr (ev_grAppend ft gl (ev_potGr ft hL kys (ev_v 0) (by intro _ _; rfl)) (ea_cons (ev_bin opFDiv_ok (ev_v 2) (ev_v 1)) ea_nil)))
    eb_nil)
    eb_nil)
   (eb_cons (es_ret (ev_bin opMod_ok (ev_callTy int_ok (by rfl) T.int_ bt_int (ea_cons (ev_v 2) ea_nil)) (ev_v 1)))
   eb_nil)))
   eb_nil)
  (eb_cons (es_setTrn ft hL kys (ev_v 0) (ev_bin opAdd_ok (ev_potTrn ft hL kys (ev_v 0) (by intro _ _; rfl)) ev_int))
  (eb_cons (es_set (i := 3) sc__law_draw.nd rfl (by first | exact Or.inl rfl | exact Or.inr rfl) (ev_bin opMod_ok (ev_callTy int_ok (by rfl) T.int_ bt_int (ea_cons (ev_bin opAdd_ok (ev_potMix ft hL kys (ev_v 0) (by intro _ _; rfl)) (ev_bin opMul_ok ev_int (ev_potTrn ft hL kys (ev_v 0) (by intro _ _; rfl)))) ea_nil)) ev_int))
  (eb_cons (es_set (i := 3) sc__law_draw.nd rfl (by first | exact Or.inl rfl | exact Or.inr rfl) (ev_bin opMod_ok (ev_callTy int_ok (by rfl) T.int_ bt_int (ea_cons (ev_bin opAdd_ok (ev_bin opAdd_ok (ev_bin opMul_ok (ev_v 3) (ev_v 3)) (ev_bin opMul_ok ev_int (ev_potTrn ft hL kys (ev_v 0) (by intro _ _; rfl)))) ev_int) ea_nil)) ev_int))
  (eb_cons (es_set (i := 3) sc__law_draw.nd rfl (by first | exact Or.inl rfl | exact Or.inr rfl) (ev_bin opMod_ok (ev_callTy int_ok (by rfl) T.int_ bt_int (ea_cons (ev_bin opAdd_ok (ev_bin opMul_ok (ev_v 3) (ev_v 3)) (ev_bin opMul_ok (ev_potMix ft hL kys (ev_v 0) (by intro _ _; rfl)) ev_int)) ea_nil)) ev_int))
  (eb_cons (es_ret (ev_bin opMod_ok (ev_callTy int_ok (by rfl) T.int_ bt_int (ea_cons (ev_bin opFDiv_ok (ev_v 3) ev_int) ea_nil)) (ev_v 1)))
  eb_nil)))))))
theorem c__law_pick (T : Txt K mg fa fd) : FnG P w K mg base 2 (fa 12) (fd 12) ["deck", "row"] (spD P w K potK 2 D__law_pick) := by
  refine fn_D (N := N__law_pick) (fs := f__law_pick) T.d__law_pick sc__law_pick (fun cdv A outer s H B ft hL => ?_)
  have gl : GrLay B.L := by rw [hL]; exact grLay_D
  have c__law_draw := c__law_draw (P := P) (w := w) (base := base) T
  rw [← hL] at c__law_draw
  unfold f__law_pick
  exact (eb_cons (es_ret (ev_ix ft (ev_v 1) (ev_call (ord := [0, 1]) ft (c__law_draw.mono (by decide)) (by rfl) T.m__law_draw T.d__law_draw.kp (KB.of T.d__law_draw fun _ _ _ _ _ _ us ws h1 h2 => match us, ws, h1, h2 with | [_, _], [], _, _ => rfl) (ea_cons (ev_v 0) (ea_cons (ev_callB (len_ok ft) (by rfl) T.len_ bt_len (ea_cons (ev_v 1) ea_nil)) ea_nil))) (by intro _ _; rfl)))
  eb_nil)
theorem c__law_turned (T : Txt K mg fa fd) : FnG P w K mg base 1 (fa 13) (fd 13) ["row", "begin", "end"] (spD P w K potK 3 D__law_turned) := by
  refine fn_D (N := N__law_turned) (fs := f__law_turned) T.d__law_turned sc__law_turned (fun cdv A outer s H B ft hL => ?_)
  have gl : GrLay B.L := by rw [hL]; exact grLay_D
  unfold f__law_turned
  exact (eb_cons (es_ret (ev_bin opAdd_ok (ev_bin opAdd_ok (ev_slice ft (ev_v 0) eo_no (eo_some (ev_v 1))) (ev_callTy (tuple_ok ft) (by rfl) T.tuple_ bt_tuple (ea_cons (ev_lc ft sc__law_turned.nd (ei_any ft (ev_rev (ev_slice ft (ev_v 0) (eo_some (ev_v 1)) (eo_some (ev_bin opAdd_ok (ev_v 2) ev_int))))) (blkOk_by (own := [("item", 3)]) (N := N__law_turned) (sc := defScope s__law_turned) (by decide +kernel)) (fun _ _ _ _ _ => (eg_n 3 sc__law_turned.nd)) (by decide) (fun _ _ _ _ _ => ets_nil) (fun _ _ _ _ _ => (ev_neg (ev_v 3)))) ea_nil))) (ev_slice ft (ev_v 0) (eo_some (ev_bin opAdd_ok (ev_v 2) ev_int)) eo_no)))
  eb_nil)
theorem c__law_all_rows (T : Txt K mg fa fd) : FnG P w K mg base 1 (fa 14) (fd 14) ["n"] (spD P w K potK 1 D__law_all_rows) := by
  refine fn_D (N := N__law_all_rows) (fs := f__law_all_rows) T.d__law_all_rows sc__law_all_rows (fun cdv A outer s H B ft hL => ?_)
  have gl : GrLay B.L := by rw [hL]; exact grLay_D
  unfold f__law_all_rows
  exact (eb_cons (es_set (i := 1) sc__law_all_rows.nd rfl (by first | exact Or.inl rfl | exact Or.inr rfl) (ev_lst (ea_cons (ev_tup ea_nil) ea_nil)))
  (eb_cons (es_for ft PassesOwn.never (ei_rg2 (by rfl) T.range_ (ea_cons ev_int (ea_cons (ev_bin opAdd_ok (ev_v 0) ev_int) ea_nil))) (eg_n 2 sc__law_all_rows.nd)
   (eb_cons (es_set (i := 3) sc__law_all_rows.nd rfl (by first | exact Or.inl rfl | exact Or.inr rfl) (ev_lst ea_nil))
   (eb_cons (es_for ft PassesOwn.never (ei_any ft (ev_v 1)) (eg_n 4 sc__law_all_rows.nd)
    (eb_cons (es_for ft PassesOwn.never (ei_rg1 (by rfl) T.range_ (ea_cons (ev_v 2) ea_nil)) (eg_n 5 sc__law_all_rows.nd)
     (eb_cons (es_expr (ev_mut ft PySem.F.plainAttrs_list PySem.F.slot_list_extend PySem.F.type_list_extend (extend_ok ft) (ev_v 3) (ea_cons (ev_lst (ea_cons (ev_bin opAdd_ok (ev_bin opAdd_ok (ev_slice ft (ev_v 4) eo_no (eo_some (ev_v 5))) (ev_tup (ea_cons (ev_v 2) ea_nil))) (ev_slice ft (ev_v 4) (eo_some (ev_v 5)) eo_no)) (ea_cons (ev_bin opAdd_ok (ev_bin opAdd_ok (ev_slice ft (ev_v 4) eo_no (eo_some (ev_v 5))) (ev_tup (ea_cons (ev_neg (ev_v 2)) ea_nil))) (ev_slice ft (ev_v 4) (eo_some (ev_v 5)) eo_no)) ea_nil))) ea_nil)))
     eb_nil))
    eb_nil))
   (eb_cons (es_setLc (i := 1) ft sc__law_all_rows.nd rfl rfl (sw_true rfl rfl rfl rfl) (ei_any ft (ev_v 3)) (blkOk_by (own := [("row", 4)]) (N := N__law_all_rows) (sc := defScope s__law_all_rows) (by decide +kernel)) (fun _ _ _ _ _ => (eg_n 4 sc__law_all_rows.nd)) (by decide) (fun _ _ _ _ _ => ets_nil) (fun _ _ _ _ _ => (ev_v 4)))
   eb_nil))))
  (eb_cons (es_ret (ev_callB (sorted_ok ft) (by rfl) T.sorted_ bt_sorted (ea_cons (ev_v 1) ea_nil)))
  eb_nil)))
theorem c__law_counts (T : Txt K mg fa fd) : FnG P w K mg base 2 (fa 15) (fd 15) ["n", "steps"] (spD P w K potK 2 D__law_counts) := by
  refine fn_D (N := N__law_counts) (fs := f__law_counts) T.d__law_counts sc__law_counts (fun cdv A outer s H B ft hL => ?_)
  have gl : GrLay B.L := by rw [hL]; exact grLay_D
  have c__law_all_rows := c__law_all_rows (P := P) (w := w) (base := base) T
  rw [← hL] at c__law_all_rows
  have c__law_turned := c__law_turned (P := P) (w := w) (base := base) T
  rw [← hL] at c__law_turned
  unfold f__law_counts
  exact (eb_cons (es_set (i := 2) sc__law_counts.nd rfl (by first | exact Or.inl rfl | exact Or.inr rfl) (ev_call (ord := [0]) ft (c__law_all_rows.mono (by decide)) (by rfl) T.m__law_all_rows T.d__law_all_rows.kp (KB.of T.d__law_all_rows fun _ _ _ _ _ _ us ws h1 h2 => match us, ws, h1, h2 with | [_], [], _, _ => rfl) (ea_cons (ev_v 0) ea_nil)))
  (eb_cons (es_set (i := 3) sc__law_counts.nd rfl (by first | exact Or.inl rfl | exact Or.inr rfl) (ev_lst ea_nil))
  (eb_cons (es_for ft PassesOwn.never (ei_rg1 (by rfl) T.range_ (ea_cons (ev_v 0) ea_nil)) (eg_n 4 sc__law_counts.nd)
   (eb_cons (es_expr (ev_mut ft PySem.F.plainAttrs_list PySem.F.slot_list_extend PySem.F.type_list_extend (extend_ok ft) (ev_v 3) (ea_cons (ev_lc ft sc__law_counts.nd (ei_rg2 (by rfl) T.range_ (ea_cons (ev_v 4) (ea_cons (ev_v 0) ea_nil))) (blkOk_by (own := [("b", 5)]) (N := N__law_counts) (sc := defScope s__law_counts) (by decide +kernel)) (fun _ _ _ _ _ => (eg_n 5 sc__law_counts.nd)) (by decide) (fun _ _ _ _ _ => ets_nil) (fun _ _ _ _ _ => (ev_tup (ea_cons (ev_v 4) (ea_cons (ev_v 5) ea_nil))))) ea_nil)))
   eb_nil))
  (eb_cons (es_set (i := 6) sc__law_counts.nd rfl (by first | exact Or.inl rfl | exact Or.inr rfl) (ev_callTy (dict_ok ft) (by rfl) T.dict_ bt_dict (ea_cons (ev_lc ft sc__law_counts.nd (ei_any ft (ev_v 2)) (blkOk_by (own := [("row", 7)]) (N := N__law_counts) (sc := defScope s__law_counts) (by decide +kernel)) (fun _ _ _ _ _ => (eg_n 7 sc__law_counts.nd)) (by decide) (fun _ _ _ _ _ => ets_nil) (fun _ _ _ _ _ => (ev_tup (ea_cons (ev_v 7) (ea_cons (ev_lc (Fit.blk ft) sc__law_counts.nd (ei_any (Fit.blk ft) (ev_v 3)) (blkOk_by (own := [("a", 4), ("b", 5)]) (by rfl)) (fun _ _ _ _ _ => (eg_tup (Fit.blk (Fit.blk ft)) (egs_cons (eg_n 4 sc__law_counts.nd) (egs_cons (eg_n 5 sc__law_counts.nd) egs_nil)) (hlen := (gsCons_len (gsCons_len gsNil_len))))) (by decide) (fun _ _ _ _ _ => ets_nil) (fun _ _ _ _ _ => (ev_call (ord := [0, 1, 2]) (Fit.blk (Fit.blk ft)) (c__law_turned.mono (by decide)) (by rfl) T.m__law_turned T.d__law_turned.kp (KB.of T.d__law_turned fun _ _ _ _ _ _ us ws h1 h2 => match us, ws, h1, h2 with | [_, _, _], [], _, _ => rfl) (ea_cons (ev_v 7) (ea_cons (ev_v 4) (ea_cons (ev_v 5) ea_nil)))))) ea_nil))))) ea_nil)))
  (eb_cons (es_set (i := 8) sc__law_counts.nd rfl (by first | exact Or.inl rfl | exact Or.inr rfl) (ev_callTy (dict_ok ft) (by rfl) T.dict_ bt_dict (ea_cons (ev_lc ft sc__law_counts.nd (ei_any ft (ev_v 2)) (blkOk_by (own := [("row", 7)]) (N := N__law_counts) (sc := defScope s__law_counts) (by decide +kernel)) (fun _ _ _ _ _ => (eg_n 7 sc__law_counts.nd)) (by decide) (fun _ _ _ _ _ => ets_nil) (fun _ _ _ _ _ => (ev_tup (ea_cons (ev_v 7) (ea_cons (ev_callTy int_ok (by rfl) T.int_ bt_int (ea_cons (ev_cmp (opEq_ok (Fit.blk ft)) (ev_v 7) (ev_rgT2 (Fit.blk ft) (by rfl) T.tuple_ (by rfl) T.range_ ev_int (ev_bin opAdd_ok (ev_v 0) ev_int))) ea_nil)) ea_nil))))) ea_nil)))
  (eb_cons (es_for ft PassesOwn.never (ei_rg1 (by rfl) T.range_ (ea_cons (ev_v 1) ea_nil)) (eg_n 9 sc__law_counts.nd)
   (eb_cons (es_set (i := 8) sc__law_counts.nd rfl (by first | exact Or.inl rfl | exact Or.inr rfl) (ev_callTy (dict_ok ft) (by rfl) T.dict_ bt_dict (ea_cons (ev_lc ft sc__law_counts.nd (ei_any ft (ev_v 2)) (blkOk_by (own := [("row", 7)]) (N := N__law_counts) (sc := defScope s__law_counts) (by decide +kernel)) (fun _ _ _ _ _ => (eg_n 7 sc__law_counts.nd)) (by decide) (fun _ _ _ _ _ => ets_nil) (fun _ _ _ _ _ => (ev_tup (ea_cons (ev_v 7) (ea_cons (ev_callB (sum_ok (Fit.blk ft)) (by rfl) T.sum_ bt_sum (ea_cons (ev_lc (Fit.blk ft) sc__law_counts.nd (ei_any (Fit.blk ft) (ev_ix (Fit.blk ft) (ev_v 6) (ev_v 7) (by intro _ _; rfl))) (blkOk_by (own := [("other", 10)]) (by rfl)) (fun _ _ _ _ _ => (eg_n 10 sc__law_counts.nd)) (by decide) (fun _ _ _ _ _ => ets_nil) (fun _ _ _ _ _ => (ev_ix (Fit.blk (Fit.blk ft)) (ev_v 8) (ev_v 10) (by intro _ _; rfl)))) ea_nil)) ea_nil))))) ea_nil)))
   eb_nil))
  (eb_cons (es_ret (ev_v 8))
  eb_nil)))))))
theorem c__law_fraction (T : Txt K mg fa fd) : FnG P w K mg base 1 (fa 16) (fd 16) ["above", "below"] (spD P w K potK 2 D__law_fraction) := by
  refine fn_D (N := N__law_fraction) (fs := f__law_fraction) T.d__law_fraction sc__law_fraction (fun cdv A outer s H B ft hL => ?_)
  have gl : GrLay B.L := by rw [hL]; exact grLay_D
  unfold f__law_fraction
  exact (eb_cons (es_par2 (m := 2) (n := 3) ft sc__law_fraction.nd rfl rfl (by decide) rfl rfl (ea_consP (ev_v 0) (ea_consP (ev_v 1) ea_nil)))
  (eb_cons (es_while PassesOwn.never (et_cmp opGt_ok (ev_v 3) ev_int)
   (eb_cons (es_par2 (m := 2) (n := 3) ft sc__law_fraction.nd rfl rfl (by decide) rfl rfl (ea_consP (ev_v 3) (ea_consP (ev_bin opMod_ok (ev_callTy int_ok (by rfl) T.int_ bt_int (ea_cons (ev_v 2) ea_nil)) (ev_v 3)) ea_nil)))
   eb_nil))
  (eb_cons (es_ret (ev_tup (ea_cons (ev_bin opFDiv_ok (ev_v 0) (ev_v 2)) (ea_cons (ev_bin opFDiv_ok (ev_v 1) (ev_v 2)) ea_nil))))
  eb_nil)))
theorem c__law_means (T : Txt K mg fa fd) : FnG P w K mg base 3 (fa 17) (fd 17) ["n", "steps"] (spD P w K potK 2 D__law_means) := by
  refine fn_D (N := N__law_means) (fs := f__law_means) T.d__law_means sc__law_means (fun cdv A outer s H B ft hL => ?_)
  have gl : GrLay B.L := by rw [hL]; exact grLay_D
  have c__law_counts := c__law_counts (P := P) (w := w) (base := base) T
  rw [← hL] at c__law_counts
  have c__law_fraction := c__law_fraction (P := P) (w := w) (base := base) T
  rw [← hL] at c__law_fraction
  unfold f__law_means
  exact (eb_cons (es_set (i := 2) sc__law_means.nd rfl (by first | exact Or.inl rfl | exact Or.inr rfl) (ev_call (ord := [0, 1]) ft (c__law_counts.mono (by decide)) (by rfl) T.m__law_counts T.d__law_counts.kp (KB.of T.d__law_counts fun _ _ _ _ _ _ us ws h1 h2 => match us, ws, h1, h2 with | [_, _], [], _, _ => rfl) (ea_cons (ev_v 0) (ea_cons (ev_v 1) ea_nil))))
  (eb_cons (es_par3 (m := 3) (n := 4) (l := 5) ft sc__law_means.nd rfl rfl rfl (by decide) (by decide) (by decide) rfl rfl rfl (ea_consP (ev_sumV ft (by rfl) T.sum_ bt_sum (ev_v 2)) (ea_consP ev_int (ea_consP ev_int ea_nil))))
  (eb_cons (es_for ft PassesOwn.never (ei_any ft (ev_v 2)) (eg_n 6 sc__law_means.nd)
   (eb_cons (es_set (i := 7) sc__law_means.nd rfl (by first | exact Or.inl rfl | exact Or.inr rfl) (ev_bin opAdd_ok (ev_bin opAdd_ok (ev_tup (ea_cons ev_int ea_nil)) (ev_v 6)) (ev_tup (ea_cons (ev_bin opAdd_ok (ev_v 0) ev_int) ea_nil))))
   (eb_cons (es_set (i := 4) sc__law_means.nd rfl (by first | exact Or.inl rfl | exact Or.inr rfl) (ev_bin opAdd_ok (ev_v 4) (ev_bin opMul_ok (ev_ix ft (ev_v 2) (ev_v 6) (by intro _ _; rfl)) (ev_callB (len_ok ft) (by rfl) T.len_ bt_len (ea_cons (ev_lc ft sc__law_means.nd (ei_zip ft (by rfl) T.zip_ (ea_cons (ev_v 7) (ea_cons (ev_slice ft (ev_v 7) (eo_some ev_int) eo_no) ea_nil))) (blkOk_by (own := [("a", 8), ("b", 9)]) (N := N__law_means) (sc := defScope s__law_means) (by decide +kernel)) (fun _ _ _ _ _ => (eg_tup (Fit.blk ft) (egs_cons (eg_n 8 sc__law_means.nd) (egs_cons (eg_n 9 sc__law_means.nd) egs_nil)) (hlen := (gsCons_len (gsCons_len gsNil_len))))) (by decide) (fun _ _ _ _ _ => (ets_one (et_cmp (opEq_ok (Fit.blk ft)) (ev_v 9) (ev_bin opAdd_ok (ev_v 8) ev_int)))) (fun _ _ _ _ _ => ev_int)) ea_nil)))))
   (eb_cons (es_set (i := 5) sc__law_means.nd rfl (by first | exact Or.inl rfl | exact Or.inr rfl) (ev_bin opAdd_ok (ev_v 5) (ev_callB abs_ok (by rfl) T.abs_ bt_abs (ea_cons (ev_bin opSub_ok (ev_bin opMul_ok (ev_ix ft (ev_v 2) (ev_v 6) (by intro _ _; rfl)) (ev_callB (len_ok ft) (by rfl) T.len_ bt_len (ea_cons (ev_v 2) ea_nil))) (ev_v 3)) ea_nil))))
   eb_nil))))
  (eb_cons (es_ret (ev_tup (ea_cons (ev_call (ord := [0, 1]) ft (c__law_fraction.mono (by decide)) (by rfl) T.m__law_fraction T.d__law_fraction.kp (KB.of T.d__law_fraction fun _ _ _ _ _ _ us ws h1 h2 => match us, ws, h1, h2 with | [_, _], [], _, _ => rfl) (ea_cons (ev_v 4) (ea_cons (ev_v 3) ea_nil))) (ea_cons (ev_call (ord := [0, 1]) ft (c__law_fraction.mono (by decide)) (by rfl) T.m__law_fraction T.d__law_fraction.kp (KB.of T.d__law_fraction fun _ _ _ _ _ _ us ws h1 h2 => match us, ws, h1, h2 with | [_, _], [], _, _ => rfl) (ea_cons (ev_v 5) (ea_cons (ev_bin opMul_ok (ev_bin opMul_ok ev_int (ev_v 3)) (ev_callB (len_ok ft) (by rfl) T.len_ bt_len (ea_cons (ev_v 2) ea_nil))) ea_nil))) ea_nil))))
  eb_nil))))
theorem c_law (T : Txt K mg fa fd) (hall : ∀ ns : List Int, ns.length ≤ 63 → ∃ s', f_law ⟨scEnv 17 ns, none⟩ = some (.rt (.fz (.bool true)), s')) : FnG P w K mg base 5 (fa 18) (fd 18) ["script"] (spLaw K) := by
  refine fn_law potK (N := N_law) (fs := f_law) T.d_law sc_law (by decide) (fun cdv A outer s H B ft hL h0 => ?_) hall
  have gl : GrLay B.L := by rw [hL]; exact grLay_D
  have c__law_deck := c__law_deck (P := P) (w := w) (base := base) T
  rw [← hL] at c__law_deck
  have c__law_draw := c__law_draw (P := P) (w := w) (base := base) T
  rw [← hL] at c__law_draw
  have c__law_means := c__law_means (P := P) (w := w) (base := base) T
  rw [← hL] at c__law_means
  have c_gap_behind := c_gap_behind (P := P) (w := w) (base := base) T
  rw [← hL] at c_gap_behind
  have c_kept_mean_behind := c_kept_mean_behind (P := P) (w := w) (base := base) T
  rw [← hL] at c_kept_mean_behind
  have c__law_pick := c__law_pick (P := P) (w := w) (base := base) T
  rw [← hL] at c__law_pick
  have c_cutting_turns := c_cutting_turns (P := P) (w := w) (base := base) T
  rw [← hL] at c_cutting_turns
  unfold f_law
  exact (eb_cons (es_set (i := 1) sc_law.nd rfl (by first | exact Or.inl rfl | exact Or.inr rfl) (ev_mk (i := 0) ft h0 (c__law_deck.mono (by decide)) (by rfl) T.m__law_deck T.d__law_deck.kp (KB.of T.d__law_deck fun _ _ _ _ _ _ us ws h1 h2 => match us, ws, h1, h2 with | [_], [], _, _ => rfl) rfl (by first | exact Or.inl rfl | exact Or.inr (Or.inl rfl) | exact Or.inr (Or.inr rfl))))
  (eb_cons (es_for ft PassesOwn.never (ei_rg1 (by rfl) T.range_ (ea_cons ev_int ea_nil)) (eg_n 2 sc_law.nd)
   (eb_cons (es_par2 (m := 3) (n := 4) ft sc_law.nd rfl rfl (by decide) rfl rfl (ea_consP (ev_bin opAdd_ok ev_int (ev_call (ord := [0, 1]) ft (c__law_draw.mono (by decide)) (by rfl) T.m__law_draw T.d__law_draw.kp (KB.of T.d__law_draw fun _ _ _ _ _ _ us ws h1 h2 => match us, ws, h1, h2 with | [_, _], [], _, _ => rfl) (ea_cons (ev_v 1) (ea_cons ev_int ea_nil)))) (ea_consP (ev_call (ord := [0, 1]) ft (c__law_draw.mono (by decide)) (by rfl) T.m__law_draw T.d__law_draw.kp (KB.of T.d__law_draw fun _ _ _ _ _ _ us ws h1 h2 => match us, ws, h1, h2 with | [_, _], [], _, _ => rfl) (ea_cons (ev_v 1) (ea_cons ev_int ea_nil))) ea_nil)))
   (eb_cons (es_asg (ev_call (ord := [0, 1]) ft (c__law_means.mono (by decide)) (by rfl) T.m__law_means T.d__law_means.kp (KB.of T.d__law_means fun _ _ _ _ _ _ us ws h1 h2 => match us, ws, h1, h2 with | [_, _], [], _, _ => rfl) (ea_cons (ev_v 3) (ea_cons (ev_v 4) ea_nil))) (eg_tup ft (egs_cons (eg_n 5 sc_law.nd) (egs_cons (eg_n 6 sc_law.nd) egs_nil)) (hlen := (gsCons_len (gsCons_len gsNil_len)))))
   (eb_cons (es_set (i := 7) sc_law.nd rfl (by first | exact Or.inl rfl | exact Or.inr rfl) (ev_lst (ea_cons (ev_call (ord := [0, 1]) ft (c_kept_mean_behind.mono (by decide)) (by rfl) T.m_kept_mean_behind T.d_kept_mean_behind.kp (KB.of T.d_kept_mean_behind fun _ _ _ _ _ _ us ws h1 h2 => match us, ws, h1, h2 with | [_, _], [], _, _ => rfl) (ea_cons (ev_v 3) (ea_cons (ev_v 4) ea_nil))) (ea_cons (ev_call (ord := [0, 1]) ft (c_gap_behind.mono (by decide)) (by rfl) T.m_gap_behind T.d_gap_behind.kp (KB.of T.d_gap_behind fun _ _ _ _ _ _ us ws h1 h2 => match us, ws, h1, h2 with | [_, _], [], _, _ => rfl) (ea_cons (ev_v 3) (ea_cons (ev_v 4) ea_nil))) ea_nil))))
   (eb_cons (es_set (i := 8) sc_law.nd rfl (by first | exact Or.inl rfl | exact Or.inr rfl) (ev_lst (ea_cons (ev_callK0 (ord := [1, 0]) (ks := ["steps", "n"]) ft (c_kept_mean_behind.mono (by decide)) (by rfl) T.m_kept_mean_behind T.d_kept_mean_behind.kp (KB.of T.d_kept_mean_behind fun _ _ _ _ _ _ us ws h1 h2 => match us, ws, h1, h2 with | [], [_, _], _, _ => rfl) (ek_cons (ev_v 4) (ek_cons (ev_v 3) ek_nil))) (ea_cons (ev_callK0 (ord := [1, 0]) (ks := ["steps", "n"]) ft (c_gap_behind.mono (by decide)) (by rfl) T.m_gap_behind T.d_gap_behind.kp (KB.of T.d_gap_behind fun _ _ _ _ _ _ us ws h1 h2 => match us, ws, h1, h2 with | [], [_, _], _, _ => rfl) (ek_cons (ev_v 4) (ek_cons (ev_v 3) ek_nil))) ea_nil))))
   (eb_cons (es_if (et_reprNe (et_cmp opNeS_ok (ev_callB (repr_ok ft) (by rfl) T.repr_ bt_repr (ea_cons (ev_lst (ea_cons (ev_v 7) (ea_cons (ev_v 8) ea_nil))) ea_nil)) (ev_callB (repr_ok ft) (by rfl) T.repr_ bt_repr (ea_cons (ev_bin opMul_ok (ev_lst (ea_cons (ev_lst (ea_cons (ev_v 5) (ea_cons (ev_v 6) ea_nil))) ea_nil)) ev_int) ea_nil))))
    (eb_cons (es_ret ev_bl)
    eb_nil)
    eb_nil)
   (eb_cons (es_set (i := 9) sc_law.nd rfl (by first | exact Or.inl rfl | exact Or.inr rfl) (ev_call (ord := [0, 1]) ft (c_gap_behind.mono (by decide)) (by rfl) T.m_gap_behind T.d_gap_behind.kp (KB.of T.d_gap_behind fun _ _ _ _ _ _ us ws h1 h2 => match us, ws, h1, h2 with | [_, _], [], _, _ => rfl) (ea_cons (ev_v 3) (ea_cons (ev_bin opAdd_ok (ev_v 4) ev_int) ea_nil))))
   (eb_cons (es_if (EW.et (ew_or (EW.et (ew_and (et_cmp (opEq_ok ft) (ev_v 3) ev_int) (ew_and1 (et_cmp opGt_ok (ev_bin opMul_ok (ev_ix ft (ev_v 9) ev_int (by intro _ _; rfl)) (ev_ix ft (ev_v 6) ev_int (by intro _ _; rfl))) (ev_bin opMul_ok (ev_ix ft (ev_v 6) ev_int (by intro _ _; rfl)) (ev_ix ft (ev_v 9) ev_int (by intro _ _; rfl))))))) (ew_or1 (EW.et (ew_and (et_cmp opLt_ok (ev_v 3) ev_int) (ew_and1 (et_cmp opLt_ok (ev_bin opMul_ok ev_int (ev_ix ft (ev_v 6) ev_int (by intro _ _; rfl))) (ev_ix ft (ev_v 6) ev_int (by intro _ _; rfl)))))))))
    (eb_cons (es_ret ev_bl)
    eb_nil)
    eb_nil)
   (eb_cons (es_par2 (m := 10) (n := 11) ft sc_law.nd rfl rfl (by decide) rfl rfl (ea_consP (ev_bin opAdd_ok (ev_v 3) ev_int) (ea_consP ev_int ea_nil)))
   (eb_cons (es_for ft PassesOwn.never (ei_rg1 (by rfl) T.range_ (ea_cons (ev_v 4) ea_nil)) (eg_n 12 sc_law.nd)
    (eb_cons (es_par2 (m := 10) (n := 11) ft sc_law.nd rfl rfl (by decide) rfl rfl (ea_consP (ev_bin opMul_ok (ev_v 10) (ev_bin opSub_ok (ev_v 3) ev_int)) (ea_consP (ev_bin opMul_ok (ev_v 11) (ev_bin opAdd_ok (ev_v 3) ev_int)) ea_nil)))
    eb_nil))
   (eb_cons (es_if (et_cmp opLt_ok (ev_bin opMul_ok (ev_ix ft (ev_v 5) ev_int (by intro _ _; rfl)) (ev_v 11)) (ev_bin opMul_ok (ev_v 10) (ev_ix ft (ev_v 5) ev_int (by intro _ _; rfl))))
    (eb_cons (es_ret ev_bl)
    eb_nil)
    eb_nil)
   eb_nil)))))))))))
  (eb_cons (es_for ft PassesOwn.never (ei_rg1 (by rfl) T.range_ (ea_cons ev_int ea_nil)) (eg_n 2 sc_law.nd)
   (eb_cons (es_set (i := 3) sc_law.nd rfl (by first | exact Or.inl rfl | exact Or.inr rfl) (ev_call (ord := [0, 1]) ft (c__law_pick.mono (by decide)) (by rfl) T.m__law_pick T.d__law_pick.kp (KB.of T.d__law_pick fun _ _ _ _ _ _ us ws h1 h2 => match us, ws, h1, h2 with | [_, _], [], _, _ => rfl) (ea_cons (ev_v 1) (ea_cons (ev_lst (ea_cons ev_int (ea_cons ev_int (ea_cons (ev_bin opAdd_ok ev_int (ev_call (ord := [0, 1]) ft (c__law_draw.mono (by decide)) (by rfl) T.m__law_draw T.d__law_draw.kp (KB.of T.d__law_draw fun _ _ _ _ _ _ us ws h1 h2 => match us, ws, h1, h2 with | [_, _], [], _, _ => rfl) (ea_cons (ev_v 1) (ea_cons ev_int ea_nil)))) (ea_cons ev_int ea_nil))))) ea_nil))))
   (eb_cons (es_par ft (ea_consP (ev_call (ord := [0, 1]) ft (c__law_draw.mono (by decide)) (by rfl) T.m__law_draw T.d__law_draw.kp (KB.of T.d__law_draw fun _ _ _ _ _ _ us ws h1 h2 => match us, ws, h1, h2 with | [_, _], [], _, _ => rfl) (ea_cons (ev_v 1) (ea_cons (ev_bin opAdd_ok (ev_v 3) ev_int) ea_nil))) (ea_consP ev_int ea_nil)) (egs_cons (eg_n 13 sc_law.nd) (egs_cons (eg_n 14 sc_law.nd) egs_nil)) (hlen := (gsCons_len (gsCons_len gsNil_len))))
   (eb_cons (es_for ft PassesOwn.never (ei_rg1 (by rfl) T.range_ (ea_cons (ev_v 3) ea_nil)) (eg_n 15 sc_law.nd)
    (eb_cons (es_set (i := 14) sc_law.nd rfl (by first | exact Or.inl rfl | exact Or.inr rfl) (ev_bin opAdd_ok (ev_v 14) (ev_callB (len_ok ft) (by rfl) T.len_ bt_len (ea_cons (ev_lc ft sc_law.nd (ei_rg2 (by rfl) T.range_ (ea_cons (ev_v 15) (ea_cons (ev_v 3) ea_nil))) (blkOk_by (own := [("end", 16)]) (N := N_law) (sc := defScope s_law) (by decide +kernel)) (fun _ _ _ _ _ => (eg_n 16 sc_law.nd)) (by decide) (fun _ _ _ _ _ => (ets_one (EW.et (ew_or (et_cmp (opEq_ok (Fit.blk ft)) (ev_v 15) (ev_v 13)) (ew_or1 (et_cmp (opEq_ok (Fit.blk ft)) (ev_v 16) (ev_bin opSub_ok (ev_v 13) ev_int))))))) (fun _ _ _ _ _ => (ev_v 16))) ea_nil))))
    eb_nil))
   (eb_cons (es_if (EW.et (ew_or (et_reprNe (et_cmp opNeS_ok (ev_callB (repr_ok ft) (by rfl) T.repr_ bt_repr (ea_cons (ev_lst (ea_cons (ev_call (ord := [0, 1]) ft (c_cutting_turns.mono (by decide)) (by rfl) T.m_cutting_turns T.d_cutting_turns.kp (KB.of T.d_cutting_turns fun _ _ _ _ _ _ us ws h1 h2 => match us, ws, h1, h2 with | [_, _], [], _, _ => rfl) (ea_cons (ev_v 3) (ea_cons (ev_v 13) ea_nil))) (ea_cons (ev_callK0 (ord := [1, 0]) (ks := ["place", "n"]) ft (c_cutting_turns.mono (by decide)) (by rfl) T.m_cutting_turns T.d_cutting_turns.kp (KB.of T.d_cutting_turns fun _ _ _ _ _ _ us ws h1 h2 => match us, ws, h1, h2 with | [], [_, _], _, _ => rfl) (ek_cons (ev_v 13) (ek_cons (ev_v 3) ek_nil))) ea_nil))) ea_nil)) (ev_callB (repr_ok ft) (by rfl) T.repr_ bt_repr (ea_cons (ev_lst (ea_cons (ev_v 14) (ea_cons (ev_v 14) ea_nil))) ea_nil)))) (ew_or1 (et_cmp (opNe_ok ft) (ev_v 14) (ev_v 3)))))
    (eb_cons (es_ret ev_bl)
    eb_nil)
    eb_nil)
   eb_nil)))))
  (eb_cons (es_ret ev_bl)
  eb_nil))))
end
theorem all_mk {l : PySem.W.OpenLaw} {w : World} {K : PySem.W.Frag} {h : Heap} {mg : Str → Option Value} {gl g0 g1 g2 g3 g4 g5 g6 g7 g8 g9 g10 g11 g12 g13 g14 g15 g16 g17 g18 : Addr} (X : K.In h) (G : h.Ns mainGlobals mg) (hfa : mg "law" = some (.ref gl))
    {od0 an0 od1 an1 od2 an2 od3 an3 od4 an4 od5 an5 od6 an6 od7 an7 od8 an8 od9 an9 od10 an10 od11 an11 od12 an12 od13 an13 od14 an14 od15 an15 od16 an16 od17 an17 od18 an18 : Option Addr} {sl0 sl1 sl2 sl3 sl4 sl5 sl6 sl7 sl8 sl9 sl10 sl11 sl12 sl13 sl14 sl15 sl16 sl17 sl18 : Array (Option Value)} {oc0 kV0 dc0 pm0 cd0 ct0 oc1 kV1 dc1 pm1 cd1 ct1 oc2 kV2 dc2 pm2 cd2 ct2 oc3 kV3 dc3 pm3 cd3 ct3 oc4 kV4 dc4 pm4 cd4 ct4 oc5 kV5 dc5 pm5 cd5 ct5 oc6 kV6 dc6 pm6 cd6 ct6 oc7 kV7 dc7 pm7 cd7 ct7 oc8 kV8 dc8 pm8 cd8 ct8 oc9 kV9 dc9 pm9 cd9 ct9 oc10 kV10 dc10 pm10 cd10 ct10 oc11 kV11 dc11 pm11 cd11 ct11 oc12 kV12 dc12 pm12 cd12 ct12 oc13 kV13 dc13 pm13 cd13 ct13 oc14 kV14 dc14 pm14 cd14 ct14 oc15 kV15 dc15 pm15 cd15 ct15 oc16 kV16 dc16 pm16 cd16 ct16 oc17 kV17 dc17 pm17 cd17 ct17 oc18 kV18 dc18 pm18 cd18 ct18 : Value}
    (a0 : PySem.W.nsIn K mainGlobals "kept_places" = some (some (.ref g0))) (l0 : K.lookup g0 = some ⟨oc0, od0, .func (PySem.W.fnOf "kept_places" "kept_places" (defArgs s_kept_places) (defBody s_kept_places) (defScope s_kept_places) .none kV0 dc0 pm0 an0 cd0 ct0), sl0⟩) (c0 : PySem.W.codeIn K cd0 "kept_places" = true) (k0 : PySem.W.keepIn K (.ref g0) = true)
    (a1 : PySem.W.nsIn K mainGlobals "reduced" = some (some (.ref g1))) (l1 : K.lookup g1 = some ⟨oc1, od1, .func (PySem.W.fnOf "reduced" "reduced" (defArgs s_reduced) (defBody s_reduced) (defScope s_reduced) .none kV1 dc1 pm1 an1 cd1 ct1), sl1⟩) (c1 : PySem.W.codeIn K cd1 "reduced" = true) (k1 : PySem.W.keepIn K (.ref g1) = true)
    (a2 : PySem.W.nsIn K mainGlobals "all_rows" = some (some (.ref g2))) (l2 : K.lookup g2 = some ⟨oc2, od2, .func (PySem.W.fnOf "all_rows" "all_rows" (defArgs s_all_rows) (defBody s_all_rows) (defScope s_all_rows) .none kV2 dc2 pm2 an2 cd2 ct2), sl2⟩) (c2 : PySem.W.codeIn K cd2 "all_rows" = true) (k2 : PySem.W.keepIn K (.ref g2) = true)
    (a3 : PySem.W.nsIn K mainGlobals "turned_at" = some (some (.ref g3))) (l3 : K.lookup g3 = some ⟨oc3, od3, .func (PySem.W.fnOf "turned_at" "turned_at" (defArgs s_turned_at) (defBody s_turned_at) (defScope s_turned_at) .none kV3 dc3 pm3 an3 cd3 ct3), sl3⟩) (c3 : PySem.W.codeIn K cd3 "turned_at" = true) (k3 : PySem.W.keepIn K (.ref g3) = true)
    (a4 : PySem.W.nsIn K mainGlobals "all_turns" = some (some (.ref g4))) (l4 : K.lookup g4 = some ⟨oc4, od4, .func (PySem.W.fnOf "all_turns" "all_turns" (defArgs s_all_turns) (defBody s_all_turns) (defScope s_all_turns) .none kV4 dc4 pm4 an4 cd4 ct4), sl4⟩) (c4 : PySem.W.codeIn K cd4 "all_turns" = true) (k4 : PySem.W.keepIn K (.ref g4) = true)
    (a5 : PySem.W.nsIn K mainGlobals "counts_behind" = some (some (.ref g5))) (l5 : K.lookup g5 = some ⟨oc5, od5, .func (PySem.W.fnOf "counts_behind" "counts_behind" (defArgs s_counts_behind) (defBody s_counts_behind) (defScope s_counts_behind) .none kV5 dc5 pm5 an5 cd5 ct5), sl5⟩) (c5 : PySem.W.codeIn K cd5 "counts_behind" = true) (k5 : PySem.W.keepIn K (.ref g5) = true)
    (a6 : PySem.W.nsIn K mainGlobals "ways_to" = some (some (.ref g6))) (l6 : K.lookup g6 = some ⟨oc6, od6, .func (PySem.W.fnOf "ways_to" "ways_to" (defArgs s_ways_to) (defBody s_ways_to) (defScope s_ways_to) .none kV6 dc6 pm6 an6 cd6 ct6), sl6⟩) (c6 : PySem.W.codeIn K cd6 "ways_to" = true) (k6 : PySem.W.keepIn K (.ref g6) = true)
    (a7 : PySem.W.nsIn K mainGlobals "kept_mean_behind" = some (some (.ref g7))) (l7 : K.lookup g7 = some ⟨oc7, od7, .func (PySem.W.fnOf "kept_mean_behind" "kept_mean_behind" (defArgs s_kept_mean_behind) (defBody s_kept_mean_behind) (defScope s_kept_mean_behind) .none kV7 dc7 pm7 an7 cd7 ct7), sl7⟩) (c7 : PySem.W.codeIn K cd7 "kept_mean_behind" = true) (k7 : PySem.W.keepIn K (.ref g7) = true)
    (a8 : PySem.W.nsIn K mainGlobals "gap_behind" = some (some (.ref g8))) (l8 : K.lookup g8 = some ⟨oc8, od8, .func (PySem.W.fnOf "gap_behind" "gap_behind" (defArgs s_gap_behind) (defBody s_gap_behind) (defScope s_gap_behind) .none kV8 dc8 pm8 an8 cd8 ct8), sl8⟩) (c8 : PySem.W.codeIn K cd8 "gap_behind" = true) (k8 : PySem.W.keepIn K (.ref g8) = true)
    (a9 : PySem.W.nsIn K mainGlobals "cutting_turns" = some (some (.ref g9))) (l9 : K.lookup g9 = some ⟨oc9, od9, .func (PySem.W.fnOf "cutting_turns" "cutting_turns" (defArgs s_cutting_turns) (defBody s_cutting_turns) (defScope s_cutting_turns) .none kV9 dc9 pm9 an9 cd9 ct9), sl9⟩) (c9 : PySem.W.codeIn K cd9 "cutting_turns" = true) (k9 : PySem.W.keepIn K (.ref g9) = true)
    (a10 : PySem.W.nsIn K mainGlobals "_law_deck" = some (some (.ref g10))) (l10 : K.lookup g10 = some ⟨oc10, od10, .func (PySem.W.fnOf "_law_deck" "_law_deck" (defArgs s__law_deck) (defBody s__law_deck) (defScope s__law_deck) .none kV10 dc10 pm10 an10 cd10 ct10), sl10⟩) (c10 : PySem.W.codeIn K cd10 "_law_deck" = true) (k10 : PySem.W.keepIn K (.ref g10) = true)
    (a11 : PySem.W.nsIn K mainGlobals "_law_draw" = some (some (.ref g11))) (l11 : K.lookup g11 = some ⟨oc11, od11, .func (PySem.W.fnOf "_law_draw" "_law_draw" (defArgs s__law_draw) (defBody s__law_draw) (defScope s__law_draw) .none kV11 dc11 pm11 an11 cd11 ct11), sl11⟩) (c11 : PySem.W.codeIn K cd11 "_law_draw" = true) (k11 : PySem.W.keepIn K (.ref g11) = true)
    (a12 : PySem.W.nsIn K mainGlobals "_law_pick" = some (some (.ref g12))) (l12 : K.lookup g12 = some ⟨oc12, od12, .func (PySem.W.fnOf "_law_pick" "_law_pick" (defArgs s__law_pick) (defBody s__law_pick) (defScope s__law_pick) .none kV12 dc12 pm12 an12 cd12 ct12), sl12⟩) (c12 : PySem.W.codeIn K cd12 "_law_pick" = true) (k12 : PySem.W.keepIn K (.ref g12) = true)
    (a13 : PySem.W.nsIn K mainGlobals "_law_turned" = some (some (.ref g13))) (l13 : K.lookup g13 = some ⟨oc13, od13, .func (PySem.W.fnOf "_law_turned" "_law_turned" (defArgs s__law_turned) (defBody s__law_turned) (defScope s__law_turned) .none kV13 dc13 pm13 an13 cd13 ct13), sl13⟩) (c13 : PySem.W.codeIn K cd13 "_law_turned" = true) (k13 : PySem.W.keepIn K (.ref g13) = true)
    (a14 : PySem.W.nsIn K mainGlobals "_law_all_rows" = some (some (.ref g14))) (l14 : K.lookup g14 = some ⟨oc14, od14, .func (PySem.W.fnOf "_law_all_rows" "_law_all_rows" (defArgs s__law_all_rows) (defBody s__law_all_rows) (defScope s__law_all_rows) .none kV14 dc14 pm14 an14 cd14 ct14), sl14⟩) (c14 : PySem.W.codeIn K cd14 "_law_all_rows" = true) (k14 : PySem.W.keepIn K (.ref g14) = true)
    (a15 : PySem.W.nsIn K mainGlobals "_law_counts" = some (some (.ref g15))) (l15 : K.lookup g15 = some ⟨oc15, od15, .func (PySem.W.fnOf "_law_counts" "_law_counts" (defArgs s__law_counts) (defBody s__law_counts) (defScope s__law_counts) .none kV15 dc15 pm15 an15 cd15 ct15), sl15⟩) (c15 : PySem.W.codeIn K cd15 "_law_counts" = true) (k15 : PySem.W.keepIn K (.ref g15) = true)
    (a16 : PySem.W.nsIn K mainGlobals "_law_fraction" = some (some (.ref g16))) (l16 : K.lookup g16 = some ⟨oc16, od16, .func (PySem.W.fnOf "_law_fraction" "_law_fraction" (defArgs s__law_fraction) (defBody s__law_fraction) (defScope s__law_fraction) .none kV16 dc16 pm16 an16 cd16 ct16), sl16⟩) (c16 : PySem.W.codeIn K cd16 "_law_fraction" = true) (k16 : PySem.W.keepIn K (.ref g16) = true)
    (a17 : PySem.W.nsIn K mainGlobals "_law_means" = some (some (.ref g17))) (l17 : K.lookup g17 = some ⟨oc17, od17, .func (PySem.W.fnOf "_law_means" "_law_means" (defArgs s__law_means) (defBody s__law_means) (defScope s__law_means) .none kV17 dc17 pm17 an17 cd17 ct17), sl17⟩) (c17 : PySem.W.codeIn K cd17 "_law_means" = true) (k17 : PySem.W.keepIn K (.ref g17) = true)
    (a18 : PySem.W.nsIn K mainGlobals "law" = some (some (.ref g18))) (l18 : K.lookup g18 = some ⟨oc18, od18, .func (PySem.W.fnOf "law" "law" (defArgs s_law) (defBody s_law) (defScope s_law) .none kV18 dc18 pm18 an18 cd18 ct18), sl18⟩) (c18 : PySem.W.codeIn K cd18 "law" = true) (k18 : PySem.W.keepIn K (.ref g18) = true)
    (z_abs : PySem.W.nsIn K mainGlobals "abs" = some none)
    (z_dict : PySem.W.nsIn K mainGlobals "dict" = some none)
    (z_int : PySem.W.nsIn K mainGlobals "int" = some none)
    (z_len : PySem.W.nsIn K mainGlobals "len" = some none)
    (z_list : PySem.W.nsIn K mainGlobals "list" = some none)
    (z_range : PySem.W.nsIn K mainGlobals "range" = some none)
    (z_repr : PySem.W.nsIn K mainGlobals "repr" = some none)
    (z_sorted : PySem.W.nsIn K mainGlobals "sorted" = some none)
    (z_sum : PySem.W.nsIn K mainGlobals "sum" = some none)
    (z_tuple : PySem.W.nsIn K mainGlobals "tuple" = some none)
    (z_zip : PySem.W.nsIn K mainGlobals "zip" = some none)
    (hall : ∀ ns : List Int, ns.length ≤ 63 → ∃ s', f_law ⟨scEnv 17 ns, none⟩ = some (.rt (.fz (.bool true)), s')) :
    ∃ fd : FuncData, (∀ (s : Shared) (v : Value), BindsTo s fd ⟨[v], []⟩ [("script", v)]) ∧ ∀ base : Heap, K.In base → base.Ns mainGlobals mg → FnG l.prog w K mg base 5 gl fd ["script"] (spLaw K) := by
  have e := hfa.symm.trans (PySem.W.mg_of X G a18)
  cases e
  have T : Txt K mg (fun i => [g0, g1, g2, g3, g4, g5, g6, g7, g8, g9, g10, g11, g12, g13, g14, g15, g16, g17, gl].getD i 0) (fun i => [PySem.W.fnOf "kept_places" "kept_places" (defArgs s_kept_places) (defBody s_kept_places) (defScope s_kept_places) .none kV0 dc0 pm0 an0 cd0 ct0, PySem.W.fnOf "reduced" "reduced" (defArgs s_reduced) (defBody s_reduced) (defScope s_reduced) .none kV1 dc1 pm1 an1 cd1 ct1, PySem.W.fnOf "all_rows" "all_rows" (defArgs s_all_rows) (defBody s_all_rows) (defScope s_all_rows) .none kV2 dc2 pm2 an2 cd2 ct2, PySem.W.fnOf "turned_at" "turned_at" (defArgs s_turned_at) (defBody s_turned_at) (defScope s_turned_at) .none kV3 dc3 pm3 an3 cd3 ct3, PySem.W.fnOf "all_turns" "all_turns" (defArgs s_all_turns) (defBody s_all_turns) (defScope s_all_turns) .none kV4 dc4 pm4 an4 cd4 ct4, PySem.W.fnOf "counts_behind" "counts_behind" (defArgs s_counts_behind) (defBody s_counts_behind) (defScope s_counts_behind) .none kV5 dc5 pm5 an5 cd5 ct5, PySem.W.fnOf "ways_to" "ways_to" (defArgs s_ways_to) (defBody s_ways_to) (defScope s_ways_to) .none kV6 dc6 pm6 an6 cd6 ct6, PySem.W.fnOf "kept_mean_behind" "kept_mean_behind" (defArgs s_kept_mean_behind) (defBody s_kept_mean_behind) (defScope s_kept_mean_behind) .none kV7 dc7 pm7 an7 cd7 ct7, PySem.W.fnOf "gap_behind" "gap_behind" (defArgs s_gap_behind) (defBody s_gap_behind) (defScope s_gap_behind) .none kV8 dc8 pm8 an8 cd8 ct8, PySem.W.fnOf "cutting_turns" "cutting_turns" (defArgs s_cutting_turns) (defBody s_cutting_turns) (defScope s_cutting_turns) .none kV9 dc9 pm9 an9 cd9 ct9, PySem.W.fnOf "_law_deck" "_law_deck" (defArgs s__law_deck) (defBody s__law_deck) (defScope s__law_deck) .none kV10 dc10 pm10 an10 cd10 ct10, PySem.W.fnOf "_law_draw" "_law_draw" (defArgs s__law_draw) (defBody s__law_draw) (defScope s__law_draw) .none kV11 dc11 pm11 an11 cd11 ct11, PySem.W.fnOf "_law_pick" "_law_pick" (defArgs s__law_pick) (defBody s__law_pick) (defScope s__law_pick) .none kV12 dc12 pm12 an12 cd12 ct12, PySem.W.fnOf "_law_turned" "_law_turned" (defArgs s__law_turned) (defBody s__law_turned) (defScope s__law_turned) .none kV13 dc13 pm13 an13 cd13 ct13, PySem.W.fnOf "_law_all_rows" "_law_all_rows" (defArgs s__law_all_rows) (defBody s__law_all_rows) (defScope s__law_all_rows) .none kV14 dc14 pm14 an14 cd14 ct14, PySem.W.fnOf "_law_counts" "_law_counts" (defArgs s__law_counts) (defBody s__law_counts) (defScope s__law_counts) .none kV15 dc15 pm15 an15 cd15 ct15, PySem.W.fnOf "_law_fraction" "_law_fraction" (defArgs s__law_fraction) (defBody s__law_fraction) (defScope s__law_fraction) .none kV16 dc16 pm16 an16 cd16 ct16, PySem.W.fnOf "_law_means" "_law_means" (defArgs s__law_means) (defBody s__law_means) (defScope s__law_means) .none kV17 dc17 pm17 an17 cd17 ct17, PySem.W.fnOf "law" "law" (defArgs s_law) (defBody s_law) (defScope s_law) .none kV18 dc18 pm18 an18 cd18 ct18].getD i default) := by
    exact ⟨fun_mk (st := s_kept_places) l0 c0 k0,
      PySem.W.mg_of X G a0,
      fun_mk (st := s_reduced) l1 c1 k1,
      PySem.W.mg_of X G a1,
      fun_mk (st := s_all_rows) l2 c2 k2,
      PySem.W.mg_of X G a2,
      fun_mk (st := s_turned_at) l3 c3 k3,
      PySem.W.mg_of X G a3,
      fun_mk (st := s_all_turns) l4 c4 k4,
      PySem.W.mg_of X G a4,
      fun_mk (st := s_counts_behind) l5 c5 k5,
      PySem.W.mg_of X G a5,
      fun_mk (st := s_ways_to) l6 c6 k6,
      PySem.W.mg_of X G a6,
      fun_mk (st := s_kept_mean_behind) l7 c7 k7,
      PySem.W.mg_of X G a7,
      fun_mk (st := s_gap_behind) l8 c8 k8,
      PySem.W.mg_of X G a8,
      fun_mk (st := s_cutting_turns) l9 c9 k9,
      PySem.W.mg_of X G a9,
      fun_mk (st := s__law_deck) l10 c10 k10,
      PySem.W.mg_of X G a10,
      fun_mk (st := s__law_draw) l11 c11 k11,
      PySem.W.mg_of X G a11,
      fun_mk (st := s__law_pick) l12 c12 k12,
      PySem.W.mg_of X G a12,
      fun_mk (st := s__law_turned) l13 c13 k13,
      PySem.W.mg_of X G a13,
      fun_mk (st := s__law_all_rows) l14 c14 k14,
      PySem.W.mg_of X G a14,
      fun_mk (st := s__law_counts) l15 c15 k15,
      PySem.W.mg_of X G a15,
      fun_mk (st := s__law_fraction) l16 c16 k16,
      PySem.W.mg_of X G a16,
      fun_mk (st := s__law_means) l17 c17 k17,
      PySem.W.mg_of X G a17,
      fun_mk (st := s_law) l18 c18 k18,
      PySem.W.mg_of X G a18,
      PySem.W.mg_none_of X G z_abs,
      PySem.W.mg_none_of X G z_dict,
      PySem.W.mg_none_of X G z_int,
      PySem.W.mg_none_of X G z_len,
      PySem.W.mg_none_of X G z_list,
      PySem.W.mg_none_of X G z_range,
      PySem.W.mg_none_of X G z_repr,
      PySem.W.mg_none_of X G z_sorted,
      PySem.W.mg_none_of X G z_sum,
      PySem.W.mg_none_of X G z_tuple,
      PySem.W.mg_none_of X G z_zip⟩
  exact ⟨PySem.W.fnOf "law" "law" (defArgs s_law) (defBody s_law) (defScope s_law) .none kV18 dc18 pm18 an18 cd18 ct18, fun s v => .of_eq rfl, fun base _ _ => c_law T hall⟩
theorem walkL {l : PySem.W.OpenLaw} {q : Program} {loose : List Str} {XP : (Str → Option Value) → Heap → Prop} {YP : World → Heap → Prop} {d : DefRec} {K : Params → PySem.W.Frag} (hn : l.most = some 63) (hdf : d.params.defaults = [])
    (hY : ∀ (w : World) (h : Heap), YP w h → (K w.params).In h)
    (F : ∀ (w : World) (mg : Str → Option Value) (fa : Addr) (h : Heap), (K w.params).In h → h.Ns mainGlobals mg → mg d.name = some (.ref fa) →
      ∃ fd : FuncData, (∀ (s : Shared) (u : Value), BindsTo s fd ⟨[u], []⟩ [("script", u)]) ∧ ∀ base : Heap, (K w.params).In base → base.Ns mainGlobals mg → FnG l.prog w (K w.params) mg base 5 fa fd ["script"] (spLaw (K w.params))) :
    PySem.W.WalkO q loose XP YP l.row.toRowW d [] (fun f vs => PySem.call f vs) :=
  walk_ofG (n := 63) (k := 5) (x := "script") (sp := fun w => spLaw (K w.params)) hn (by decide) hdf ⟨⟨rfl, by decide, by decide⟩, rfl⟩ hY F fun _ _ a ns hl _ hS => ⟨a, ns, rfl, hS, hl, fun _ => rfl⟩
end Rg
namespace Rg
open PySem L2

structure Good (z : PotSt) : Prop where
  l : z.great.length ≤ 1000
def drawA (z : PotSt) (many : Int) : Int × PotSt :=
  if many < 2 then (0, z) else
  if z.great = [] then
    ((((((z.mixed + 2654435761 * (z.turns + 1)) % 4294967279) * ((z.mixed + 2654435761 * (z.turns + 1)) % 4294967279) + 40692 * (z.turns + 1) + 23) % 4294967231) * ((((z.mixed + 2654435761 * (z.turns + 1)) % 4294967279) * ((z.mixed + 2654435761 * (z.turns + 1)) % 4294967279) + 40692 * (z.turns + 1) + 23) % 4294967231) + z.mixed * 11) % 4294967197 / 64 % many, { z with turns := z.turns + 1 })
  else (z.great.getD (z.great.length - 1) 0 % many, { z with great := if many ≤ z.great.getD (z.great.length - 1) 0 then z.great.dropLast ++ [z.great.getD (z.great.length - 1) 0 / many] else z.great.dropLast })
theorem small_of {i : Int} (h1 : 0 ≤ i) (h2 : i < 4611686018427387904) : small i = true := by
  unfold small
  simp
  omega
theorem small_mod {x m : Int} (h1 : 0 < m) (h2 : m ≤ 4611686018427387904) : small (x % m) = true :=
  small_of (Int.emod_nonneg _ (by omega)) (by have := Int.emod_lt_of_pos x h1; omega)
theorem drawA_good (z : PotSt) (many : Int) (hz : Good z) : Good (drawA z many).2 := by
  have hl := hz.l
  unfold drawA
  split
  · exact hz
  · split
    · exact ⟨hl⟩
    · refine ⟨?_⟩
      show (if _ then _ else _ : List Int).length ≤ 1000
      split
      · rw [List.length_append, List.length_dropLast, List.length_singleton]; omega
      · rw [List.length_dropLast]; omega
theorem drawA_range (z : PotSt) (many : Int) : 0 ≤ (drawA z many).1 ∧ (2 ≤ many → (drawA z many).1 < many) ∧ (many < 2 → (drawA z many).1 = 0) := by
  unfold drawA
  split
  · exact ⟨Int.le_refl _, fun h => by omega, fun _ => rfl⟩
  · rename_i h
    split
    · exact ⟨Int.emod_nonneg _ (by omega), fun _ => Int.emod_lt_of_pos _ (by omega), fun h2 => absurd h2 h⟩
    · exact ⟨Int.emod_nonneg _ (by omega), fun _ => Int.emod_lt_of_pos _ (by omega), fun h2 => absurd h2 h⟩
theorem draw_ok (many : Int) (hm : many < 4611686018427387904) (z : PotSt) (hz : Good z) : D__law_draw [.p, .d (.int many)] (some z) = some (.fz (.int (drawA z many).1), some (drawA z many).2) := by
  obtain ⟨great, mixed, turns⟩ := z
  have hl := hz.l
  simp only at hl
  by_cases h : many < 2
  · simp [D__law_draw, runDef, f__law_draw, envOf, slAr, dSeq, dIfS, dOp, dSet, dVar, dLit, settle, cont, opLt, asB, h, dRet, leave, samePot, drawA]
  · have hs : small many = true := small_of (by omega) hm
    have s1 : small 2654435761 = true := by decide
    have s2 : small 40692 = true := by decide
    have s3 : small 11 = true := by decide
    have s4 : small 64 = true := by decide
    have h0 : 0 < many := by omega
    cases hg : great with
    | nil =>
      simp [D__law_draw, runDef, f__law_draw, envOf, slAr, dSeq, dIfS, dOp, dSet, dVar, dLit, settle, cont, opLt, asB, h, dRet, leave, samePot, dGrNe, dPotGr, dNop, dSetTrn, dPotTrn, dPotMix, opAdd, opMul, opMod, dCallB, dCons, dNil, conts, opInt, dAsg, unsl, gVar, slOf, S.put, opFDiv, s1, s2, s3, s4, small_mod, drawA, h0]
    | cons a as =>
      have hne : ¬ (a :: as).length = 0 := by simp
      have hgl : (a :: as)[(a :: as).length - 1]? = some ((a :: as).getD ((a :: as).length - 1) 0) := by
        rw [List.getD_eq_getElem?_getD, List.getElem?_eq_getElem (by simp)]; rfl
      have hlt : (a :: as).length - 1 < 1000 := by rw [hg] at hl; omega
      generalize hG : a :: as = gg at *
      generalize hx : gg.getD (gg.length - 1) 0 = x at *
      have hemp : gg.isEmpty = false := by rw [← hG]; rfl
      have hnil : ¬ gg = [] := by rw [← hG]; simp
      by_cases hc : many ≤ x
      · simp [D__law_draw, runDef, f__law_draw, envOf, slAr, dSeq, dIfS, dOp, dSet, dVar, dLit, settle, cont, opLt, opGe, asB, h, dRet, leave, samePot, dGrNe, dPotGr, dNop, dGrPop, dGrAppend, dExpr, opMod, dCallB, dCons, dNil, conts, opInt, dAsg, unsl, gVar, slOf, S.put, opFDiv, hs, drawA, h0, hemp, hgl, hc, hlt, hnil]
      · simp [D__law_draw, runDef, f__law_draw, envOf, slAr, dSeq, dIfS, dOp, dSet, dVar, dLit, settle, cont, opLt, opGe, asB, h, dRet, leave, samePot, dGrNe, dPotGr, dNop, dGrPop, dGrAppend, dExpr, opMod, dCallB, dCons, dNil, conts, opInt, dAsg, unsl, gVar, slOf, S.put, opFDiv, hs, drawA, h0, hemp, hgl, hc, hlt, hnil]
end Rg
namespace Rg
open PySem L2
/-- one turn of the deck's loop -/
def deckBody : DS := match f__law_deck with
  | _ => (dSeq (dAsg (dOp opAdd (dOp opMul (dLit (.int 2)) (dCallB opAbs (dCons (dVar 2) dNil))) (dCallB opInt (dCons (dOp opLt (dVar 2) (dLit (.int 0))) dNil))) (gVar 3))
   (dSeq (dIfS (fun s => asB (dOp opGe (dVar 3) (dOp opPow (dLit (.int 10)) (dLit (.int 16))) s))
    (dSeq (dExpr (dGrAppend (dPotGr (dVar 1)) (dCons (dVar 3) dNil)))
    dNop)
    dNop)
   (dSeq (dSetMix (dVar 1) (dOp opMod (dCallB opInt (dCons (dOp opAdd (dOp opAdd (dOp opMul (dPotMix (dVar 1)) (dLit (.int 69621))) (dVar 3)) (dLit (.int 29))) dNil)) (dLit (.int 4294967291))))
   dNop)))
theorem deck_loop (ns : List Int) : ∀ (l : List Int) (e2 e3 : Option Sl) (z : PotSt), z.great.length + l.length ≤ 1000 → ∃ e2' e3' z', dForL (gVar 2) deckBody (l.map .int) ⟨[some (.sc ns), some .pt, e2, e3], some z⟩ = some (.nx, ⟨[some (.sc ns), some .pt, e2', e3'], some z'⟩) ∧ z'.great.length ≤ 1000
  | [], e2, e3, z, h => ⟨e2, e3, z, rfl, by simpa using h⟩
  | c :: l, e2, e3, z, h => by
    obtain ⟨great, mixed, turns⟩ := z
    simp only [List.length_cons] at h
    have s1 : small 2 = true := by decide
    have s2 : small 69621 = true := by decide
    have s3 : small 10 = true := by decide
    have hlt : great.length < 1000 := by omega
    rw [List.map_cons]
    unfold dForL
    by_cases hb : (10000000000000000 : Int) ≤ 2 * (if c < 0 then -c else c) + (if c < 0 then 1 else 0)
    · simp [gVar, slOf, S.put, deckBody, dSeq, dIfS, dOp, dSet, dVar, dLit, settle, cont, asB, dNop, opAdd, opMul, opMod, opPow, opLt, opGe, dCallB, dCons, dNil, conts, opInt, opAbs, dAsg, unsl, dExpr, dGrAppend, dPotGr, dPotMix, dSetMix, s1, s2, s3, hb, hlt]
      exact deck_loop ns l _ _ _ (by simp; omega)
    · simp [gVar, slOf, S.put, deckBody, dSeq, dIfS, dOp, dSet, dVar, dLit, settle, cont, asB, dNop, opAdd, opMul, opMod, opPow, opLt, opGe, dCallB, dCons, dNil, conts, opInt, opAbs, dAsg, unsl, dExpr, dGrAppend, dPotGr, dPotMix, dSetMix, s1, s2, s3, hb, hlt]
      exact deck_loop ns l _ _ _ (by simp; omega)
theorem deck_ok (ns : List Int) (h : ns.length ≤ 63) : ∃ st, D__law_deck ns = some st ∧ Good st := by
  have hc : ∃ m : List Int, cut (ns.map PyData.int) none (some 63) = m.map .int ∧ m.length ≤ 63 := by
    refine ⟨(ns.drop (HT.sIx ns.length 0 none)).take (HT.sIx ns.length ns.length (some 63) - HT.sIx ns.length 0 none), ?_, ?_⟩
    · unfold cut
      simp [List.map_take, List.map_drop]
    · rw [List.length_take, List.length_drop]; omega
  obtain ⟨m, h1, h2⟩ := hc
  obtain ⟨e2, e3, z', h3, h4⟩ := deck_loop ns m none none ⟨[], 1752578 + m.length, 0⟩ (by simp; omega)
  refine ⟨z', ?_, ⟨h4⟩⟩
  have hb : f__law_deck = (dSeq (dAsg (dPotNew (dLst dNil) (dOp opAdd (dLit (.int 1752578)) (dCallB opLen (dCons (dScCut 0 63) dNil))) (dLit (.int 0))) (gVar 1)) (dSeq (dFor (dAny (dScCut 0 63)) (gVar 2) deckBody) (dSeq (dRet (dVar 1)) dNop))) := rfl
  unfold D__law_deck runMk
  rw [hb]
  simp [scEnv, dSeq, dAsg, dPotNew, dLst, dNil, frzAll, intsOf, lim, dOp, dSet, dLit, settle, cont, dCallB, dCons, dScCut, conts, opLen, opAdd, gVar, slOf, unsl, S.put, dFor, dAny, frz, h1, h3, dRet, dVar, leave, dNop]
end Rg
namespace Rg
open PySem L2
theorem rel_kept_places {p q : Option PotSt} : RelD p q D_kept_places := rel_def (by
  unfold f_kept_places
  repeat' first | refine rd_while ?_ ?_ _ | exact rd_nop | exact re_lit | exact re_empty | exact rt_yes | exact rs_nil | exact rgs_nil | exact ro_no | exact rg_var | exact re_var | refine rd_seq ?_ ?_ | refine rd_asg ?_ ?_ | refine rd_expr ?_ | refine rd_if ?_ ?_ ?_ | refine rd_ret ?_ | refine rd_par ?_ ?_ | refine rd_for ?_ ?_ ?_ | refine rg_tup ?_ | refine rg_ix ?_ ?_ | refine rgs_cons ?_ ?_ | refine ri_any ?_ | refine ri_items ?_ | refine ri_rg1 ?_ | refine ri_rg2 ?_ | refine ri_enum ?_ | refine re_lc ?_ ?_ ?_ ?_ | refine rs_cons ?_ ?_ | refine rs_consP ?_ ?_ | refine re_tup ?_ | refine re_lst ?_ | refine re_disp1 ?_ ?_ | refine re_rgT2 ?_ ?_ | refine re_slice ?_ ?_ ?_ | refine re_rev ?_ | refine ro_part ?_ | refine re_mut ?_ ?_ | refine re_val ?_ | refine rt_bool ?_ | refine rt_and ?_ ?_ | refine rt_neRepr ?_ ?_ | refine rt_asB ?_ | refine re_if ?_ ?_ ?_ | refine re_op ns_opAdd ?_ ?_ | refine re_op ns_opSub ?_ ?_ | refine re_op ns_opMul ?_ ?_ | refine re_op ns_opFDiv ?_ ?_ | refine re_op ns_opMod ?_ ?_ | refine re_op ns_opPow ?_ ?_ | refine re_op ns_opEq ?_ ?_ | refine re_op ns_opNe ?_ ?_ | refine re_op ns_opLt ?_ ?_ | refine re_op ns_opLe ?_ ?_ | refine re_op ns_opGt ?_ ?_ | refine re_op ns_opGe ?_ ?_ | refine re_op ns_opIn ?_ ?_ | refine re_op ns_opNotIn ?_ ?_ | refine re_op ns_opIx ?_ ?_ | refine re_callB ns_opAbs ?_ | refine re_callB ns_opInt ?_ | refine re_callB ns_opLen ?_ | refine re_callB ns_opTuple ?_ | refine re_callB ns_opList ?_ | refine re_callB ns_opSum ?_ | refine re_callB ns_opSorted ?_ | refine re_callB ns_opDict ?_ | refine re_callB ns_opGet ?_ | refine re_callB ns_opMin2 ?_ | refine re_callB ns_opMax2 ?_ | refine re_callB ns_opAny ?_ | refine re_callB ns_opAll ?_ | refine re_met ns_opGet ?_ ?_ | refine re_op1 ns_opNeg ?_ | refine rt_or ?_ ?_ | refine rt_not ?_ | refine re_sumV ?_ | refine re_listV ?_ | refine ri_zip ?_ | refine ri_values ?_ | exact rd_never)
theorem rel_reduced {p q : Option PotSt} : RelD p q D_reduced := rel_def (by
  unfold f_reduced
  repeat' first | refine rd_while ?_ ?_ _ | exact rd_nop | exact re_lit | exact re_empty | exact rt_yes | exact rs_nil | exact rgs_nil | exact ro_no | exact rg_var | exact re_var | refine rd_seq ?_ ?_ | refine rd_asg ?_ ?_ | refine rd_expr ?_ | refine rd_if ?_ ?_ ?_ | refine rd_ret ?_ | refine rd_par ?_ ?_ | refine rd_for ?_ ?_ ?_ | refine rg_tup ?_ | refine rg_ix ?_ ?_ | refine rgs_cons ?_ ?_ | refine ri_any ?_ | refine ri_items ?_ | refine ri_rg1 ?_ | refine ri_rg2 ?_ | refine ri_enum ?_ | refine re_lc ?_ ?_ ?_ ?_ | refine rs_cons ?_ ?_ | refine rs_consP ?_ ?_ | refine re_tup ?_ | refine re_lst ?_ | refine re_disp1 ?_ ?_ | refine re_rgT2 ?_ ?_ | refine re_slice ?_ ?_ ?_ | refine re_rev ?_ | refine ro_part ?_ | refine re_mut ?_ ?_ | refine re_val ?_ | refine rt_bool ?_ | refine rt_and ?_ ?_ | refine rt_neRepr ?_ ?_ | refine rt_asB ?_ | refine re_if ?_ ?_ ?_ | refine re_op ns_opAdd ?_ ?_ | refine re_op ns_opSub ?_ ?_ | refine re_op ns_opMul ?_ ?_ | refine re_op ns_opFDiv ?_ ?_ | refine re_op ns_opMod ?_ ?_ | refine re_op ns_opPow ?_ ?_ | refine re_op ns_opEq ?_ ?_ | refine re_op ns_opNe ?_ ?_ | refine re_op ns_opLt ?_ ?_ | refine re_op ns_opLe ?_ ?_ | refine re_op ns_opGt ?_ ?_ | refine re_op ns_opGe ?_ ?_ | refine re_op ns_opIn ?_ ?_ | refine re_op ns_opNotIn ?_ ?_ | refine re_op ns_opIx ?_ ?_ | refine re_callB ns_opAbs ?_ | refine re_callB ns_opInt ?_ | refine re_callB ns_opLen ?_ | refine re_callB ns_opTuple ?_ | refine re_callB ns_opList ?_ | refine re_callB ns_opSum ?_ | refine re_callB ns_opSorted ?_ | refine re_callB ns_opDict ?_ | refine re_callB ns_opGet ?_ | refine re_callB ns_opMin2 ?_ | refine re_callB ns_opMax2 ?_ | refine re_callB ns_opAny ?_ | refine re_callB ns_opAll ?_ | refine re_met ns_opGet ?_ ?_ | refine re_op1 ns_opNeg ?_ | refine rt_or ?_ ?_ | refine rt_not ?_ | refine re_sumV ?_ | refine re_listV ?_ | refine ri_zip ?_ | refine ri_values ?_ | exact rd_never)
theorem rel_all_rows {p q : Option PotSt} : RelD p q D_all_rows := rel_def (by
  unfold f_all_rows
  repeat' first | refine rd_while ?_ ?_ _ | exact rd_nop | exact re_lit | exact re_empty | exact rt_yes | exact rs_nil | exact rgs_nil | exact ro_no | exact rg_var | exact re_var | refine rd_seq ?_ ?_ | refine rd_asg ?_ ?_ | refine rd_expr ?_ | refine rd_if ?_ ?_ ?_ | refine rd_ret ?_ | refine rd_par ?_ ?_ | refine rd_for ?_ ?_ ?_ | refine rg_tup ?_ | refine rg_ix ?_ ?_ | refine rgs_cons ?_ ?_ | refine ri_any ?_ | refine ri_items ?_ | refine ri_rg1 ?_ | refine ri_rg2 ?_ | refine ri_enum ?_ | refine re_lc ?_ ?_ ?_ ?_ | refine rs_cons ?_ ?_ | refine rs_consP ?_ ?_ | refine re_tup ?_ | refine re_lst ?_ | refine re_disp1 ?_ ?_ | refine re_rgT2 ?_ ?_ | refine re_slice ?_ ?_ ?_ | refine re_rev ?_ | refine ro_part ?_ | refine re_mut ?_ ?_ | refine re_val ?_ | refine rt_bool ?_ | refine rt_and ?_ ?_ | refine rt_neRepr ?_ ?_ | refine rt_asB ?_ | refine re_if ?_ ?_ ?_ | refine re_op ns_opAdd ?_ ?_ | refine re_op ns_opSub ?_ ?_ | refine re_op ns_opMul ?_ ?_ | refine re_op ns_opFDiv ?_ ?_ | refine re_op ns_opMod ?_ ?_ | refine re_op ns_opPow ?_ ?_ | refine re_op ns_opEq ?_ ?_ | refine re_op ns_opNe ?_ ?_ | refine re_op ns_opLt ?_ ?_ | refine re_op ns_opLe ?_ ?_ | refine re_op ns_opGt ?_ ?_ | refine re_op ns_opGe ?_ ?_ | refine re_op ns_opIn ?_ ?_ | refine re_op ns_opNotIn ?_ ?_ | refine re_op ns_opIx ?_ ?_ | refine re_callB ns_opAbs ?_ | refine re_callB ns_opInt ?_ | refine re_callB ns_opLen ?_ | refine re_callB ns_opTuple ?_ | refine re_callB ns_opList ?_ | refine re_callB ns_opSum ?_ | refine re_callB ns_opSorted ?_ | refine re_callB ns_opDict ?_ | refine re_callB ns_opGet ?_ | refine re_callB ns_opMin2 ?_ | refine re_callB ns_opMax2 ?_ | refine re_callB ns_opAny ?_ | refine re_callB ns_opAll ?_ | refine re_met ns_opGet ?_ ?_ | refine re_op1 ns_opNeg ?_ | refine rt_or ?_ ?_ | refine rt_not ?_ | refine re_sumV ?_ | refine re_listV ?_ | refine ri_zip ?_ | refine ri_values ?_ | exact rd_never)
theorem rel_turned_at {p q : Option PotSt} : RelD p q D_turned_at := rel_def (by
  unfold f_turned_at
  repeat' first | refine rd_while ?_ ?_ _ | exact rd_nop | exact re_lit | exact re_empty | exact rt_yes | exact rs_nil | exact rgs_nil | exact ro_no | exact rg_var | exact re_var | refine rd_seq ?_ ?_ | refine rd_asg ?_ ?_ | refine rd_expr ?_ | refine rd_if ?_ ?_ ?_ | refine rd_ret ?_ | refine rd_par ?_ ?_ | refine rd_for ?_ ?_ ?_ | refine rg_tup ?_ | refine rg_ix ?_ ?_ | refine rgs_cons ?_ ?_ | refine ri_any ?_ | refine ri_items ?_ | refine ri_rg1 ?_ | refine ri_rg2 ?_ | refine ri_enum ?_ | refine re_lc ?_ ?_ ?_ ?_ | refine rs_cons ?_ ?_ | refine rs_consP ?_ ?_ | refine re_tup ?_ | refine re_lst ?_ | refine re_disp1 ?_ ?_ | refine re_rgT2 ?_ ?_ | refine re_slice ?_ ?_ ?_ | refine re_rev ?_ | refine ro_part ?_ | refine re_mut ?_ ?_ | refine re_val ?_ | refine rt_bool ?_ | refine rt_and ?_ ?_ | refine rt_neRepr ?_ ?_ | refine rt_asB ?_ | refine re_if ?_ ?_ ?_ | refine re_op ns_opAdd ?_ ?_ | refine re_op ns_opSub ?_ ?_ | refine re_op ns_opMul ?_ ?_ | refine re_op ns_opFDiv ?_ ?_ | refine re_op ns_opMod ?_ ?_ | refine re_op ns_opPow ?_ ?_ | refine re_op ns_opEq ?_ ?_ | refine re_op ns_opNe ?_ ?_ | refine re_op ns_opLt ?_ ?_ | refine re_op ns_opLe ?_ ?_ | refine re_op ns_opGt ?_ ?_ | refine re_op ns_opGe ?_ ?_ | refine re_op ns_opIn ?_ ?_ | refine re_op ns_opNotIn ?_ ?_ | refine re_op ns_opIx ?_ ?_ | refine re_callB ns_opAbs ?_ | refine re_callB ns_opInt ?_ | refine re_callB ns_opLen ?_ | refine re_callB ns_opTuple ?_ | refine re_callB ns_opList ?_ | refine re_callB ns_opSum ?_ | refine re_callB ns_opSorted ?_ | refine re_callB ns_opDict ?_ | refine re_callB ns_opGet ?_ | refine re_callB ns_opMin2 ?_ | refine re_callB ns_opMax2 ?_ | refine re_callB ns_opAny ?_ | refine re_callB ns_opAll ?_ | refine re_met ns_opGet ?_ ?_ | refine re_op1 ns_opNeg ?_ | refine rt_or ?_ ?_ | refine rt_not ?_ | refine re_sumV ?_ | refine re_listV ?_ | refine ri_zip ?_ | refine ri_values ?_ | exact rd_never)
theorem rel_all_turns {p q : Option PotSt} : RelD p q D_all_turns := rel_def (by
  unfold f_all_turns
  repeat' first | refine rd_while ?_ ?_ _ | exact rd_nop | exact re_lit | exact re_empty | exact rt_yes | exact rs_nil | exact rgs_nil | exact ro_no | exact rg_var | exact re_var | refine rd_seq ?_ ?_ | refine rd_asg ?_ ?_ | refine rd_expr ?_ | refine rd_if ?_ ?_ ?_ | refine rd_ret ?_ | refine rd_par ?_ ?_ | refine rd_for ?_ ?_ ?_ | refine rg_tup ?_ | refine rg_ix ?_ ?_ | refine rgs_cons ?_ ?_ | refine ri_any ?_ | refine ri_items ?_ | refine ri_rg1 ?_ | refine ri_rg2 ?_ | refine ri_enum ?_ | refine re_lc ?_ ?_ ?_ ?_ | refine rs_cons ?_ ?_ | refine rs_consP ?_ ?_ | refine re_tup ?_ | refine re_lst ?_ | refine re_disp1 ?_ ?_ | refine re_rgT2 ?_ ?_ | refine re_slice ?_ ?_ ?_ | refine re_rev ?_ | refine ro_part ?_ | refine re_mut ?_ ?_ | refine re_val ?_ | refine rt_bool ?_ | refine rt_and ?_ ?_ | refine rt_neRepr ?_ ?_ | refine rt_asB ?_ | refine re_if ?_ ?_ ?_ | refine re_op ns_opAdd ?_ ?_ | refine re_op ns_opSub ?_ ?_ | refine re_op ns_opMul ?_ ?_ | refine re_op ns_opFDiv ?_ ?_ | refine re_op ns_opMod ?_ ?_ | refine re_op ns_opPow ?_ ?_ | refine re_op ns_opEq ?_ ?_ | refine re_op ns_opNe ?_ ?_ | refine re_op ns_opLt ?_ ?_ | refine re_op ns_opLe ?_ ?_ | refine re_op ns_opGt ?_ ?_ | refine re_op ns_opGe ?_ ?_ | refine re_op ns_opIn ?_ ?_ | refine re_op ns_opNotIn ?_ ?_ | refine re_op ns_opIx ?_ ?_ | refine re_callB ns_opAbs ?_ | refine re_callB ns_opInt ?_ | refine re_callB ns_opLen ?_ | refine re_callB ns_opTuple ?_ | refine re_callB ns_opList ?_ | refine re_callB ns_opSum ?_ | refine re_callB ns_opSorted ?_ | refine re_callB ns_opDict ?_ | refine re_callB ns_opGet ?_ | refine re_callB ns_opMin2 ?_ | refine re_callB ns_opMax2 ?_ | refine re_callB ns_opAny ?_ | refine re_callB ns_opAll ?_ | refine re_met ns_opGet ?_ ?_ | refine re_op1 ns_opNeg ?_ | refine rt_or ?_ ?_ | refine rt_not ?_ | refine re_sumV ?_ | refine re_listV ?_ | refine ri_zip ?_ | refine ri_values ?_ | exact rd_never)
theorem rel_counts_behind {p q : Option PotSt} : RelD p q D_counts_behind := rel_def (by
  unfold f_counts_behind
  repeat' first | refine rd_while ?_ ?_ _ | exact rd_nop | exact re_lit | exact re_empty | exact rt_yes | exact rs_nil | exact rgs_nil | exact ro_no | exact rg_var | exact re_var | refine rd_seq ?_ ?_ | refine rd_asg ?_ ?_ | refine rd_expr ?_ | refine rd_if ?_ ?_ ?_ | refine rd_ret ?_ | refine rd_par ?_ ?_ | refine rd_for ?_ ?_ ?_ | refine rg_tup ?_ | refine rg_ix ?_ ?_ | refine rgs_cons ?_ ?_ | refine ri_any ?_ | refine ri_items ?_ | refine ri_rg1 ?_ | refine ri_rg2 ?_ | refine ri_enum ?_ | refine re_lc ?_ ?_ ?_ ?_ | refine rs_cons ?_ ?_ | refine rs_consP ?_ ?_ | refine re_tup ?_ | refine re_lst ?_ | refine re_disp1 ?_ ?_ | refine re_rgT2 ?_ ?_ | refine re_slice ?_ ?_ ?_ | refine re_rev ?_ | refine ro_part ?_ | refine re_mut ?_ ?_ | refine re_val ?_ | refine rt_bool ?_ | refine rt_and ?_ ?_ | refine rt_neRepr ?_ ?_ | refine rt_asB ?_ | refine re_if ?_ ?_ ?_ | refine re_op ns_opAdd ?_ ?_ | refine re_op ns_opSub ?_ ?_ | refine re_op ns_opMul ?_ ?_ | refine re_op ns_opFDiv ?_ ?_ | refine re_op ns_opMod ?_ ?_ | refine re_op ns_opPow ?_ ?_ | refine re_op ns_opEq ?_ ?_ | refine re_op ns_opNe ?_ ?_ | refine re_op ns_opLt ?_ ?_ | refine re_op ns_opLe ?_ ?_ | refine re_op ns_opGt ?_ ?_ | refine re_op ns_opGe ?_ ?_ | refine re_op ns_opIn ?_ ?_ | refine re_op ns_opNotIn ?_ ?_ | refine re_op ns_opIx ?_ ?_ | refine re_callB ns_opAbs ?_ | refine re_callB ns_opInt ?_ | refine re_callB ns_opLen ?_ | refine re_callB ns_opTuple ?_ | refine re_callB ns_opList ?_ | refine re_callB ns_opSum ?_ | refine re_callB ns_opSorted ?_ | refine re_callB ns_opDict ?_ | refine re_callB ns_opGet ?_ | refine re_callB ns_opMin2 ?_ | refine re_callB ns_opMax2 ?_ | refine re_callB ns_opAny ?_ | refine re_callB ns_opAll ?_ | refine re_met ns_opGet ?_ ?_ | refine re_op1 ns_opNeg ?_ | refine rt_or ?_ ?_ | refine rt_not ?_ | refine re_sumV ?_ | refine re_listV ?_ | refine ri_zip ?_ | refine ri_values ?_ | exact rd_never | refine re_callF rel_turned_at ?_ ?_ | refine re_callF rel_all_turns ?_ ?_)
theorem rel_ways_to {p q : Option PotSt} : RelD p q D_ways_to := rel_def (by
  unfold f_ways_to
  repeat' first | refine rd_while ?_ ?_ _ | exact rd_nop | exact re_lit | exact re_empty | exact rt_yes | exact rs_nil | exact rgs_nil | exact ro_no | exact rg_var | exact re_var | refine rd_seq ?_ ?_ | refine rd_asg ?_ ?_ | refine rd_expr ?_ | refine rd_if ?_ ?_ ?_ | refine rd_ret ?_ | refine rd_par ?_ ?_ | refine rd_for ?_ ?_ ?_ | refine rg_tup ?_ | refine rg_ix ?_ ?_ | refine rgs_cons ?_ ?_ | refine ri_any ?_ | refine ri_items ?_ | refine ri_rg1 ?_ | refine ri_rg2 ?_ | refine ri_enum ?_ | refine re_lc ?_ ?_ ?_ ?_ | refine rs_cons ?_ ?_ | refine rs_consP ?_ ?_ | refine re_tup ?_ | refine re_lst ?_ | refine re_disp1 ?_ ?_ | refine re_rgT2 ?_ ?_ | refine re_slice ?_ ?_ ?_ | refine re_rev ?_ | refine ro_part ?_ | refine re_mut ?_ ?_ | refine re_val ?_ | refine rt_bool ?_ | refine rt_and ?_ ?_ | refine rt_neRepr ?_ ?_ | refine rt_asB ?_ | refine re_if ?_ ?_ ?_ | refine re_op ns_opAdd ?_ ?_ | refine re_op ns_opSub ?_ ?_ | refine re_op ns_opMul ?_ ?_ | refine re_op ns_opFDiv ?_ ?_ | refine re_op ns_opMod ?_ ?_ | refine re_op ns_opPow ?_ ?_ | refine re_op ns_opEq ?_ ?_ | refine re_op ns_opNe ?_ ?_ | refine re_op ns_opLt ?_ ?_ | refine re_op ns_opLe ?_ ?_ | refine re_op ns_opGt ?_ ?_ | refine re_op ns_opGe ?_ ?_ | refine re_op ns_opIn ?_ ?_ | refine re_op ns_opNotIn ?_ ?_ | refine re_op ns_opIx ?_ ?_ | refine re_callB ns_opAbs ?_ | refine re_callB ns_opInt ?_ | refine re_callB ns_opLen ?_ | refine re_callB ns_opTuple ?_ | refine re_callB ns_opList ?_ | refine re_callB ns_opSum ?_ | refine re_callB ns_opSorted ?_ | refine re_callB ns_opDict ?_ | refine re_callB ns_opGet ?_ | refine re_callB ns_opMin2 ?_ | refine re_callB ns_opMax2 ?_ | refine re_callB ns_opAny ?_ | refine re_callB ns_opAll ?_ | refine re_met ns_opGet ?_ ?_ | refine re_op1 ns_opNeg ?_ | refine rt_or ?_ ?_ | refine rt_not ?_ | refine re_sumV ?_ | refine re_listV ?_ | refine ri_zip ?_ | refine ri_values ?_ | exact rd_never | refine re_callF rel_all_rows ?_ ?_ | refine re_callF rel_counts_behind ?_ ?_)
theorem rel_kept_mean_behind {p q : Option PotSt} : RelD p q D_kept_mean_behind := rel_def (by
  unfold f_kept_mean_behind
  repeat' first | refine rd_while ?_ ?_ _ | exact rd_nop | exact re_lit | exact re_empty | exact rt_yes | exact rs_nil | exact rgs_nil | exact ro_no | exact rg_var | exact re_var | refine rd_seq ?_ ?_ | refine rd_asg ?_ ?_ | refine rd_expr ?_ | refine rd_if ?_ ?_ ?_ | refine rd_ret ?_ | refine rd_par ?_ ?_ | refine rd_for ?_ ?_ ?_ | refine rg_tup ?_ | refine rg_ix ?_ ?_ | refine rgs_cons ?_ ?_ | refine ri_any ?_ | refine ri_items ?_ | refine ri_rg1 ?_ | refine ri_rg2 ?_ | refine ri_enum ?_ | refine re_lc ?_ ?_ ?_ ?_ | refine rs_cons ?_ ?_ | refine rs_consP ?_ ?_ | refine re_tup ?_ | refine re_lst ?_ | refine re_disp1 ?_ ?_ | refine re_rgT2 ?_ ?_ | refine re_slice ?_ ?_ ?_ | refine re_rev ?_ | refine ro_part ?_ | refine re_mut ?_ ?_ | refine re_val ?_ | refine rt_bool ?_ | refine rt_and ?_ ?_ | refine rt_neRepr ?_ ?_ | refine rt_asB ?_ | refine re_if ?_ ?_ ?_ | refine re_op ns_opAdd ?_ ?_ | refine re_op ns_opSub ?_ ?_ | refine re_op ns_opMul ?_ ?_ | refine re_op ns_opFDiv ?_ ?_ | refine re_op ns_opMod ?_ ?_ | refine re_op ns_opPow ?_ ?_ | refine re_op ns_opEq ?_ ?_ | refine re_op ns_opNe ?_ ?_ | refine re_op ns_opLt ?_ ?_ | refine re_op ns_opLe ?_ ?_ | refine re_op ns_opGt ?_ ?_ | refine re_op ns_opGe ?_ ?_ | refine re_op ns_opIn ?_ ?_ | refine re_op ns_opNotIn ?_ ?_ | refine re_op ns_opIx ?_ ?_ | refine re_callB ns_opAbs ?_ | refine re_callB ns_opInt ?_ | refine re_callB ns_opLen ?_ | refine re_callB ns_opTuple ?_ | refine re_callB ns_opList ?_ | refine re_callB ns_opSum ?_ | refine re_callB ns_opSorted ?_ | refine re_callB ns_opDict ?_ | refine re_callB ns_opGet ?_ | refine re_callB ns_opMin2 ?_ | refine re_callB ns_opMax2 ?_ | refine re_callB ns_opAny ?_ | refine re_callB ns_opAll ?_ | refine re_met ns_opGet ?_ ?_ | refine re_op1 ns_opNeg ?_ | refine rt_or ?_ ?_ | refine rt_not ?_ | refine re_sumV ?_ | refine re_listV ?_ | refine ri_zip ?_ | refine ri_values ?_ | exact rd_never | refine re_callF rel_kept_places ?_ ?_ | refine re_callF rel_reduced ?_ ?_ | refine re_callF rel_counts_behind ?_ ?_)
theorem rel_gap_behind {p q : Option PotSt} : RelD p q D_gap_behind := rel_def (by
  unfold f_gap_behind
  repeat' first | refine rd_while ?_ ?_ _ | exact rd_nop | exact re_lit | exact re_empty | exact rt_yes | exact rs_nil | exact rgs_nil | exact ro_no | exact rg_var | exact re_var | refine rd_seq ?_ ?_ | refine rd_asg ?_ ?_ | refine rd_expr ?_ | refine rd_if ?_ ?_ ?_ | refine rd_ret ?_ | refine rd_par ?_ ?_ | refine rd_for ?_ ?_ ?_ | refine rg_tup ?_ | refine rg_ix ?_ ?_ | refine rgs_cons ?_ ?_ | refine ri_any ?_ | refine ri_items ?_ | refine ri_rg1 ?_ | refine ri_rg2 ?_ | refine ri_enum ?_ | refine re_lc ?_ ?_ ?_ ?_ | refine rs_cons ?_ ?_ | refine rs_consP ?_ ?_ | refine re_tup ?_ | refine re_lst ?_ | refine re_disp1 ?_ ?_ | refine re_rgT2 ?_ ?_ | refine re_slice ?_ ?_ ?_ | refine re_rev ?_ | refine ro_part ?_ | refine re_mut ?_ ?_ | refine re_val ?_ | refine rt_bool ?_ | refine rt_and ?_ ?_ | refine rt_neRepr ?_ ?_ | refine rt_asB ?_ | refine re_if ?_ ?_ ?_ | refine re_op ns_opAdd ?_ ?_ | refine re_op ns_opSub ?_ ?_ | refine re_op ns_opMul ?_ ?_ | refine re_op ns_opFDiv ?_ ?_ | refine re_op ns_opMod ?_ ?_ | refine re_op ns_opPow ?_ ?_ | refine re_op ns_opEq ?_ ?_ | refine re_op ns_opNe ?_ ?_ | refine re_op ns_opLt ?_ ?_ | refine re_op ns_opLe ?_ ?_ | refine re_op ns_opGt ?_ ?_ | refine re_op ns_opGe ?_ ?_ | refine re_op ns_opIn ?_ ?_ | refine re_op ns_opNotIn ?_ ?_ | refine re_op ns_opIx ?_ ?_ | refine re_callB ns_opAbs ?_ | refine re_callB ns_opInt ?_ | refine re_callB ns_opLen ?_ | refine re_callB ns_opTuple ?_ | refine re_callB ns_opList ?_ | refine re_callB ns_opSum ?_ | refine re_callB ns_opSorted ?_ | refine re_callB ns_opDict ?_ | refine re_callB ns_opGet ?_ | refine re_callB ns_opMin2 ?_ | refine re_callB ns_opMax2 ?_ | refine re_callB ns_opAny ?_ | refine re_callB ns_opAll ?_ | refine re_met ns_opGet ?_ ?_ | refine re_op1 ns_opNeg ?_ | refine rt_or ?_ ?_ | refine rt_not ?_ | refine re_sumV ?_ | refine re_listV ?_ | refine ri_zip ?_ | refine ri_values ?_ | exact rd_never | refine re_callF rel_reduced ?_ ?_ | refine re_callF rel_ways_to ?_ ?_)
theorem rel_cutting_turns {p q : Option PotSt} : RelD p q D_cutting_turns := rel_def (by
  unfold f_cutting_turns
  repeat' first | refine rd_while ?_ ?_ _ | exact rd_nop | exact re_lit | exact re_empty | exact rt_yes | exact rs_nil | exact rgs_nil | exact ro_no | exact rg_var | exact re_var | refine rd_seq ?_ ?_ | refine rd_asg ?_ ?_ | refine rd_expr ?_ | refine rd_if ?_ ?_ ?_ | refine rd_ret ?_ | refine rd_par ?_ ?_ | refine rd_for ?_ ?_ ?_ | refine rg_tup ?_ | refine rg_ix ?_ ?_ | refine rgs_cons ?_ ?_ | refine ri_any ?_ | refine ri_items ?_ | refine ri_rg1 ?_ | refine ri_rg2 ?_ | refine ri_enum ?_ | refine re_lc ?_ ?_ ?_ ?_ | refine rs_cons ?_ ?_ | refine rs_consP ?_ ?_ | refine re_tup ?_ | refine re_lst ?_ | refine re_disp1 ?_ ?_ | refine re_rgT2 ?_ ?_ | refine re_slice ?_ ?_ ?_ | refine re_rev ?_ | refine ro_part ?_ | refine re_mut ?_ ?_ | refine re_val ?_ | refine rt_bool ?_ | refine rt_and ?_ ?_ | refine rt_neRepr ?_ ?_ | refine rt_asB ?_ | refine re_if ?_ ?_ ?_ | refine re_op ns_opAdd ?_ ?_ | refine re_op ns_opSub ?_ ?_ | refine re_op ns_opMul ?_ ?_ | refine re_op ns_opFDiv ?_ ?_ | refine re_op ns_opMod ?_ ?_ | refine re_op ns_opPow ?_ ?_ | refine re_op ns_opEq ?_ ?_ | refine re_op ns_opNe ?_ ?_ | refine re_op ns_opLt ?_ ?_ | refine re_op ns_opLe ?_ ?_ | refine re_op ns_opGt ?_ ?_ | refine re_op ns_opGe ?_ ?_ | refine re_op ns_opIn ?_ ?_ | refine re_op ns_opNotIn ?_ ?_ | refine re_op ns_opIx ?_ ?_ | refine re_callB ns_opAbs ?_ | refine re_callB ns_opInt ?_ | refine re_callB ns_opLen ?_ | refine re_callB ns_opTuple ?_ | refine re_callB ns_opList ?_ | refine re_callB ns_opSum ?_ | refine re_callB ns_opSorted ?_ | refine re_callB ns_opDict ?_ | refine re_callB ns_opGet ?_ | refine re_callB ns_opMin2 ?_ | refine re_callB ns_opMax2 ?_ | refine re_callB ns_opAny ?_ | refine re_callB ns_opAll ?_ | refine re_met ns_opGet ?_ ?_ | refine re_op1 ns_opNeg ?_ | refine rt_or ?_ ?_ | refine rt_not ?_ | refine re_sumV ?_ | refine re_listV ?_ | refine ri_zip ?_ | refine ri_values ?_ | exact rd_never | refine re_callF rel_all_turns ?_ ?_)
theorem rel__law_turned {p q : Option PotSt} : RelD p q D__law_turned := rel_def (by
  unfold f__law_turned
  repeat' first | refine rd_while ?_ ?_ _ | exact rd_nop | exact re_lit | exact re_empty | exact rt_yes | exact rs_nil | exact rgs_nil | exact ro_no | exact rg_var | exact re_var | refine rd_seq ?_ ?_ | refine rd_asg ?_ ?_ | refine rd_expr ?_ | refine rd_if ?_ ?_ ?_ | refine rd_ret ?_ | refine rd_par ?_ ?_ | refine rd_for ?_ ?_ ?_ | refine rg_tup ?_ | refine rg_ix ?_ ?_ | refine rgs_cons ?_ ?_ | refine ri_any ?_ | refine ri_items ?_ | refine ri_rg1 ?_ | refine ri_rg2 ?_ | refine ri_enum ?_ | refine re_lc ?_ ?_ ?_ ?_ | refine rs_cons ?_ ?_ | refine rs_consP ?_ ?_ | refine re_tup ?_ | refine re_lst ?_ | refine re_disp1 ?_ ?_ | refine re_rgT2 ?_ ?_ | refine re_slice ?_ ?_ ?_ | refine re_rev ?_ | refine ro_part ?_ | refine re_mut ?_ ?_ | refine re_val ?_ | refine rt_bool ?_ | refine rt_and ?_ ?_ | refine rt_neRepr ?_ ?_ | refine rt_asB ?_ | refine re_if ?_ ?_ ?_ | refine re_op ns_opAdd ?_ ?_ | refine re_op ns_opSub ?_ ?_ | refine re_op ns_opMul ?_ ?_ | refine re_op ns_opFDiv ?_ ?_ | refine re_op ns_opMod ?_ ?_ | refine re_op ns_opPow ?_ ?_ | refine re_op ns_opEq ?_ ?_ | refine re_op ns_opNe ?_ ?_ | refine re_op ns_opLt ?_ ?_ | refine re_op ns_opLe ?_ ?_ | refine re_op ns_opGt ?_ ?_ | refine re_op ns_opGe ?_ ?_ | refine re_op ns_opIn ?_ ?_ | refine re_op ns_opNotIn ?_ ?_ | refine re_op ns_opIx ?_ ?_ | refine re_callB ns_opAbs ?_ | refine re_callB ns_opInt ?_ | refine re_callB ns_opLen ?_ | refine re_callB ns_opTuple ?_ | refine re_callB ns_opList ?_ | refine re_callB ns_opSum ?_ | refine re_callB ns_opSorted ?_ | refine re_callB ns_opDict ?_ | refine re_callB ns_opGet ?_ | refine re_callB ns_opMin2 ?_ | refine re_callB ns_opMax2 ?_ | refine re_callB ns_opAny ?_ | refine re_callB ns_opAll ?_ | refine re_met ns_opGet ?_ ?_ | refine re_op1 ns_opNeg ?_ | refine rt_or ?_ ?_ | refine rt_not ?_ | refine re_sumV ?_ | refine re_listV ?_ | refine ri_zip ?_ | refine ri_values ?_ | exact rd_never)
theorem rel__law_all_rows {p q : Option PotSt} : RelD p q D__law_all_rows := rel_def (by
  unfold f__law_all_rows
  repeat' first | refine rd_while ?_ ?_ _ | exact rd_nop | exact re_lit | exact re_empty | exact rt_yes | exact rs_nil | exact rgs_nil | exact ro_no | exact rg_var | exact re_var | refine rd_seq ?_ ?_ | refine rd_asg ?_ ?_ | refine rd_expr ?_ | refine rd_if ?_ ?_ ?_ | refine rd_ret ?_ | refine rd_par ?_ ?_ | refine rd_for ?_ ?_ ?_ | refine rg_tup ?_ | refine rg_ix ?_ ?_ | refine rgs_cons ?_ ?_ | refine ri_any ?_ | refine ri_items ?_ | refine ri_rg1 ?_ | refine ri_rg2 ?_ | refine ri_enum ?_ | refine re_lc ?_ ?_ ?_ ?_ | refine rs_cons ?_ ?_ | refine rs_consP ?_ ?_ | refine re_tup ?_ | refine re_lst ?_ | refine re_disp1 ?_ ?_ | refine re_rgT2 ?_ ?_ | refine re_slice ?_ ?_ ?_ | refine re_rev ?_ | refine ro_part ?_ | refine re_mut ?_ ?_ | refine re_val ?_ | refine rt_bool ?_ | refine rt_and ?_ ?_ | refine rt_neRepr ?_ ?_ | refine rt_asB ?_ | refine re_if ?_ ?_ ?_ | refine re_op ns_opAdd ?_ ?_ | refine re_op ns_opSub ?_ ?_ | refine re_op ns_opMul ?_ ?_ | refine re_op ns_opFDiv ?_ ?_ | refine re_op ns_opMod ?_ ?_ | refine re_op ns_opPow ?_ ?_ | refine re_op ns_opEq ?_ ?_ | refine re_op ns_opNe ?_ ?_ | refine re_op ns_opLt ?_ ?_ | refine re_op ns_opLe ?_ ?_ | refine re_op ns_opGt ?_ ?_ | refine re_op ns_opGe ?_ ?_ | refine re_op ns_opIn ?_ ?_ | refine re_op ns_opNotIn ?_ ?_ | refine re_op ns_opIx ?_ ?_ | refine re_callB ns_opAbs ?_ | refine re_callB ns_opInt ?_ | refine re_callB ns_opLen ?_ | refine re_callB ns_opTuple ?_ | refine re_callB ns_opList ?_ | refine re_callB ns_opSum ?_ | refine re_callB ns_opSorted ?_ | refine re_callB ns_opDict ?_ | refine re_callB ns_opGet ?_ | refine re_callB ns_opMin2 ?_ | refine re_callB ns_opMax2 ?_ | refine re_callB ns_opAny ?_ | refine re_callB ns_opAll ?_ | refine re_met ns_opGet ?_ ?_ | refine re_op1 ns_opNeg ?_ | refine rt_or ?_ ?_ | refine rt_not ?_ | refine re_sumV ?_ | refine re_listV ?_ | refine ri_zip ?_ | refine ri_values ?_ | exact rd_never)
theorem rel__law_counts {p q : Option PotSt} : RelD p q D__law_counts := rel_def (by
  unfold f__law_counts
  repeat' first | refine rd_while ?_ ?_ _ | exact rd_nop | exact re_lit | exact re_empty | exact rt_yes | exact rs_nil | exact rgs_nil | exact ro_no | exact rg_var | exact re_var | refine rd_seq ?_ ?_ | refine rd_asg ?_ ?_ | refine rd_expr ?_ | refine rd_if ?_ ?_ ?_ | refine rd_ret ?_ | refine rd_par ?_ ?_ | refine rd_for ?_ ?_ ?_ | refine rg_tup ?_ | refine rg_ix ?_ ?_ | refine rgs_cons ?_ ?_ | refine ri_any ?_ | refine ri_items ?_ | refine ri_rg1 ?_ | refine ri_rg2 ?_ | refine ri_enum ?_ | refine re_lc ?_ ?_ ?_ ?_ | refine rs_cons ?_ ?_ | refine rs_consP ?_ ?_ | refine re_tup ?_ | refine re_lst ?_ | refine re_disp1 ?_ ?_ | refine re_rgT2 ?_ ?_ | refine re_slice ?_ ?_ ?_ | refine re_rev ?_ | refine ro_part ?_ | refine re_mut ?_ ?_ | refine re_val ?_ | refine rt_bool ?_ | refine rt_and ?_ ?_ | refine rt_neRepr ?_ ?_ | refine rt_asB ?_ | refine re_if ?_ ?_ ?_ | refine re_op ns_opAdd ?_ ?_ | refine re_op ns_opSub ?_ ?_ | refine re_op ns_opMul ?_ ?_ | refine re_op ns_opFDiv ?_ ?_ | refine re_op ns_opMod ?_ ?_ | refine re_op ns_opPow ?_ ?_ | refine re_op ns_opEq ?_ ?_ | refine re_op ns_opNe ?_ ?_ | refine re_op ns_opLt ?_ ?_ | refine re_op ns_opLe ?_ ?_ | refine re_op ns_opGt ?_ ?_ | refine re_op ns_opGe ?_ ?_ | refine re_op ns_opIn ?_ ?_ | refine re_op ns_opNotIn ?_ ?_ | refine re_op ns_opIx ?_ ?_ | refine re_callB ns_opAbs ?_ | refine re_callB ns_opInt ?_ | refine re_callB ns_opLen ?_ | refine re_callB ns_opTuple ?_ | refine re_callB ns_opList ?_ | refine re_callB ns_opSum ?_ | refine re_callB ns_opSorted ?_ | refine re_callB ns_opDict ?_ | refine re_callB ns_opGet ?_ | refine re_callB ns_opMin2 ?_ | refine re_callB ns_opMax2 ?_ | refine re_callB ns_opAny ?_ | refine re_callB ns_opAll ?_ | refine re_met ns_opGet ?_ ?_ | refine re_op1 ns_opNeg ?_ | refine rt_or ?_ ?_ | refine rt_not ?_ | refine re_sumV ?_ | refine re_listV ?_ | refine ri_zip ?_ | refine ri_values ?_ | exact rd_never | refine re_callF rel__law_turned ?_ ?_ | refine re_callF rel__law_all_rows ?_ ?_)
theorem rel__law_fraction {p q : Option PotSt} : RelD p q D__law_fraction := rel_def (by
  unfold f__law_fraction
  repeat' first | refine rd_while ?_ ?_ _ | exact rd_nop | exact re_lit | exact re_empty | exact rt_yes | exact rs_nil | exact rgs_nil | exact ro_no | exact rg_var | exact re_var | refine rd_seq ?_ ?_ | refine rd_asg ?_ ?_ | refine rd_expr ?_ | refine rd_if ?_ ?_ ?_ | refine rd_ret ?_ | refine rd_par ?_ ?_ | refine rd_for ?_ ?_ ?_ | refine rg_tup ?_ | refine rg_ix ?_ ?_ | refine rgs_cons ?_ ?_ | refine ri_any ?_ | refine ri_items ?_ | refine ri_rg1 ?_ | refine ri_rg2 ?_ | refine ri_enum ?_ | refine re_lc ?_ ?_ ?_ ?_ | refine rs_cons ?_ ?_ | refine rs_consP ?_ ?_ | refine re_tup ?_ | refine re_lst ?_ | refine re_disp1 ?_ ?_ | refine re_rgT2 ?_ ?_ | refine re_slice ?_ ?_ ?_ | refine re_rev ?_ | refine ro_part ?_ | refine re_mut ?_ ?_ | refine re_val ?_ | refine rt_bool ?_ | refine rt_and ?_ ?_ | refine rt_neRepr ?_ ?_ | refine rt_asB ?_ | refine re_if ?_ ?_ ?_ | refine re_op ns_opAdd ?_ ?_ | refine re_op ns_opSub ?_ ?_ | refine re_op ns_opMul ?_ ?_ | refine re_op ns_opFDiv ?_ ?_ | refine re_op ns_opMod ?_ ?_ | refine re_op ns_opPow ?_ ?_ | refine re_op ns_opEq ?_ ?_ | refine re_op ns_opNe ?_ ?_ | refine re_op ns_opLt ?_ ?_ | refine re_op ns_opLe ?_ ?_ | refine re_op ns_opGt ?_ ?_ | refine re_op ns_opGe ?_ ?_ | refine re_op ns_opIn ?_ ?_ | refine re_op ns_opNotIn ?_ ?_ | refine re_op ns_opIx ?_ ?_ | refine re_callB ns_opAbs ?_ | refine re_callB ns_opInt ?_ | refine re_callB ns_opLen ?_ | refine re_callB ns_opTuple ?_ | refine re_callB ns_opList ?_ | refine re_callB ns_opSum ?_ | refine re_callB ns_opSorted ?_ | refine re_callB ns_opDict ?_ | refine re_callB ns_opGet ?_ | refine re_callB ns_opMin2 ?_ | refine re_callB ns_opMax2 ?_ | refine re_callB ns_opAny ?_ | refine re_callB ns_opAll ?_ | refine re_met ns_opGet ?_ ?_ | refine re_op1 ns_opNeg ?_ | refine rt_or ?_ ?_ | refine rt_not ?_ | refine re_sumV ?_ | refine re_listV ?_ | refine ri_zip ?_ | refine ri_values ?_ | exact rd_never)
theorem rel__law_means {p q : Option PotSt} : RelD p q D__law_means := rel_def (by
  unfold f__law_means
  repeat' first | refine rd_while ?_ ?_ _ | exact rd_nop | exact re_lit | exact re_empty | exact rt_yes | exact rs_nil | exact rgs_nil | exact ro_no | exact rg_var | exact re_var | refine rd_seq ?_ ?_ | refine rd_asg ?_ ?_ | refine rd_expr ?_ | refine rd_if ?_ ?_ ?_ | refine rd_ret ?_ | refine rd_par ?_ ?_ | refine rd_for ?_ ?_ ?_ | refine rg_tup ?_ | refine rg_ix ?_ ?_ | refine rgs_cons ?_ ?_ | refine ri_any ?_ | refine ri_items ?_ | refine ri_rg1 ?_ | refine ri_rg2 ?_ | refine ri_enum ?_ | refine re_lc ?_ ?_ ?_ ?_ | refine rs_cons ?_ ?_ | refine rs_consP ?_ ?_ | refine re_tup ?_ | refine re_lst ?_ | refine re_disp1 ?_ ?_ | refine re_rgT2 ?_ ?_ | refine re_slice ?_ ?_ ?_ | refine re_rev ?_ | refine ro_part ?_ | refine re_mut ?_ ?_ | refine re_val ?_ | refine rt_bool ?_ | refine rt_and ?_ ?_ | refine rt_neRepr ?_ ?_ | refine rt_asB ?_ | refine re_if ?_ ?_ ?_ | refine re_op ns_opAdd ?_ ?_ | refine re_op ns_opSub ?_ ?_ | refine re_op ns_opMul ?_ ?_ | refine re_op ns_opFDiv ?_ ?_ | refine re_op ns_opMod ?_ ?_ | refine re_op ns_opPow ?_ ?_ | refine re_op ns_opEq ?_ ?_ | refine re_op ns_opNe ?_ ?_ | refine re_op ns_opLt ?_ ?_ | refine re_op ns_opLe ?_ ?_ | refine re_op ns_opGt ?_ ?_ | refine re_op ns_opGe ?_ ?_ | refine re_op ns_opIn ?_ ?_ | refine re_op ns_opNotIn ?_ ?_ | refine re_op ns_opIx ?_ ?_ | refine re_callB ns_opAbs ?_ | refine re_callB ns_opInt ?_ | refine re_callB ns_opLen ?_ | refine re_callB ns_opTuple ?_ | refine re_callB ns_opList ?_ | refine re_callB ns_opSum ?_ | refine re_callB ns_opSorted ?_ | refine re_callB ns_opDict ?_ | refine re_callB ns_opGet ?_ | refine re_callB ns_opMin2 ?_ | refine re_callB ns_opMax2 ?_ | refine re_callB ns_opAny ?_ | refine re_callB ns_opAll ?_ | refine re_met ns_opGet ?_ ?_ | refine re_op1 ns_opNeg ?_ | refine rt_or ?_ ?_ | refine rt_not ?_ | refine re_sumV ?_ | refine re_listV ?_ | refine ri_zip ?_ | refine ri_values ?_ | exact rd_never | refine re_callF rel__law_counts ?_ ?_ | refine re_callF rel__law_fraction ?_ ?_)
end Rg
namespace Rg
open PySem L2
def eqSl : Option Sl → Option Sl → Bool
  | none, none => true
  | some (.fz d), some (.fz e) => deq d e
  | some (.own d), some (.own e) => deq d e
  | _, _ => false
theorem eq_of_eqSl {a b : Option Sl} (h : eqSl a b = true) : a = b := by
  unfold eqSl at h
  split at h
  · rfl
  · rw [eq_of_deq _ _ h]
  · rw [eq_of_deq _ _ h]
  · cases h
def eqE : List (Option Sl) → List (Option Sl) → Bool
  | [], [] => true
  | a :: as, b :: bs => eqSl a b && eqE as bs
  | _, _ => false
theorem eq_of_eqE : ∀ {a b : List (Option Sl)}, eqE a b = true → a = b
  | [], [], _ => rfl
  | a :: as, b :: bs, h => by
    unfold eqE at h
    rw [Bool.and_eq_true] at h
    rw [eq_of_eqSl h.1, eq_of_eqE h.2]
  | [], _ :: _, h => by cases h
  | _ :: _, [], h => by cases h
def eqR (r : Option (Out × S)) (E : List (Option Sl)) : Bool := match r with
  | some (.nx, ⟨E', none⟩) => eqE E' E
  | _ => false
theorem of_eqR {r : Option (Out × S)} {E : List (Option Sl)} (h : eqR r E = true) : r = some (.nx, ⟨E, none⟩) := by
  unfold eqR at h
  split at h
  · rw [eq_of_eqE h]
  · cases h
def eqV (r : Option (Vl × Option PotSt)) (v : Vl) : Bool := match r, v with
  | some (.fz d, none), .fz e => deq d e
  | some (.fr d, none), .fr e => deq d e
  | _, _ => false
theorem of_eqV {r : Option (Vl × Option PotSt)} {v : Vl} (h : eqV r v = true) : r = some (v, none) := by
  unfold eqV at h
  split at h
  · rw [eq_of_deq _ _ h]
  · rw [eq_of_deq _ _ h]
  · cases h
theorem RelD.at {p : Option PotSt} {D : DF} (h : RelD none p D) {as : List Ar} {v : Vl} (e : D as none = some (v, none)) : D as p = some (v, p) := by
  rcases h as with ⟨e1, e2⟩ | ⟨w, _, e1, e2⟩
  · rw [e1] at e; cases e
  · rw [e1] at e; cases e; exact e2
/-- slot i is of no matter -/
theorem Rel.env {i : Nat} {p : Option PotSt} {f : DS} (h : Rel [i] none p f) {E E' : List (Option Sl)} {o : Out} (e : Option Sl) {e0 : Option Sl} (hi : i < E.length) (hf : f ⟨E.set i e0, none⟩ = some (o, ⟨E', none⟩)) : ∃ e', f ⟨E.set i e, p⟩ = some (o, ⟨E'.set i e', p⟩) := by
  rcases (h ⟨E.set i e0, none⟩ ⟨E.set i e, p⟩ ⟨by simp, fun j hj => by
    have : i ≠ j := fun q => hj (by subst q; exact List.mem_cons_self)
    show (E.set i e0)[j]? = (E.set i e)[j]?
    rw [List.getElem?_set_ne this, List.getElem?_set_ne this], rfl, rfl⟩).inv with ⟨e1, _⟩ | ⟨x, s, t, e1, e2, _, r⟩
  · rw [e1] at hf; cases hf
  · rw [e1] at hf
    cases hf
    refine ⟨(t.env[i]?).getD none, ?_⟩
    rw [e2]
    obtain ⟨te, tp⟩ := t
    have h2 : tp = p := r.p2
    subst h2
    have hl : E'.length = te.length := r.len
    have : te = E'.set i ((te[i]?).getD none) := by
      apply List.ext_getElem?
      intro j
      by_cases q : i = j
      · subst q
        by_cases hl2 : i < te.length
        · rw [List.getElem?_set_self (by omega), List.getElem?_eq_getElem hl2]; rfl
        · rw [List.getElem?_eq_none (by omega), List.getElem?_eq_none (by rw [List.length_set]; omega)]
      · rw [List.getElem?_set_ne q]
        exact (r.at' j fun h => q (List.mem_singleton.mp h).symm).symm
    exact congrArg (fun z => some (_, (⟨z, tp⟩ : S))) this
/-- one turn of a loop -/
def dTurn (g : DG) (b : DS) (d : PyData) : DS := fun s => match g (.fz d) s with
  | some s1 => b s1
  | none => none
theorem rd_turn {I : List Nat} {p q : Option PotSt} {g : DG} {b : DS} (h : RelG I p q g) (h2 : Rel I p q b) (d : PyData) : Rel I p q (dTurn g b d) := fun s t r => by
  unfold dTurn
  rcases (h (.fz d) s t .fz r).inv with ⟨e1, e2⟩ | ⟨s, t, e1, e2, r⟩
  · rw [e1, e2]; exact .nn
  rw [e1, e2]
  exact h2 s t r
theorem dForL_turn {g : DG} {b : DS} {d : PyData} {l : List PyData} {s s2 : S} (h : dTurn g b d s = some (.nx, s2)) : dForL g b (d :: l) s = dForL g b l s2 := by
  unfold dTurn at h
  split at h
  · rename_i s1 e
    rw [dForL]
    simp only [e, h]
  · cases h
theorem turn_at {i : Nat} {g : DG} {b : DS} {d : PyData} {cs cs' : Option Sl → List (Option Sl)} (e0 : Option Sl) (hb : ∀ p, Rel [i] none p (dTurn g b d)) (h1 : ∀ e, (cs e0).set i e = cs e) (h2 : ∀ e, (cs' e0).set i e = cs' e) (hi : i < (cs e0).length)
    (hf : eqR (dTurn g b d ⟨cs e0, none⟩) (cs' e0) = true) (l : List PyData) (e : Option Sl) (p : Option PotSt) : ∃ e', dForL g b (d :: l) ⟨cs e, p⟩ = dForL g b l ⟨cs' e', p⟩ := by
  obtain ⟨e', h⟩ := (hb p).env (E := cs e0) (E' := cs' e0) (o := .nx) e (e0 := e0) hi (by rw [h1]; exact of_eqR hf)
  rw [h1, h2] at h
  exact ⟨e', dForL_turn h⟩
def tr (l : List Int) : PyData := .tuple (l.map .int)
def tb (l : List (List Int × Int)) : List (PyData × PyData) := l.map fun x => (tr x.1, .int x.2)

theorem Rel.pot {p : Option PotSt} {f : DS} (h : Rel [] none p f) {E E' : List (Option Sl)} {o : Out} (hf : f ⟨E, none⟩ = some (o, ⟨E', none⟩)) : f ⟨E, p⟩ = some (o, ⟨E', p⟩) := by
  rcases (h ⟨E, none⟩ ⟨E, p⟩ ⟨rfl, fun _ _ => rfl, rfl, rfl⟩).inv with ⟨e1, _⟩ | ⟨x, s, t, e1, e2, _, r⟩
  · rw [e1] at hf; cases hf
  · rw [e1] at hf
    cases hf
    rw [e2]
    obtain ⟨te, tp⟩ := t
    have h2 : tp = p := r.p2
    subst h2
    have : te = E' := List.ext_getElem? fun j => (r.at' j (fun h => nomatch h)).symm
    rw [this]
def cbPre : DS := (dPar (dConsP (dDisp1 (dRgT2 (dLit (.int 1)) (dOp opAdd (dVar 0) (dLit (.int 1)))) (dLit (.int 1))) (dConsP (dCallF D_all_turns 1 0 [0] (dCons (dVar 0) dNil) dNil) dNil)) (gsCons (gVar 2) (gsCons (gVar 3) gsNil)))
def cbBody : DS :=    (dSeq (dAsg (fun s => some (.fr (.dict []), s)) (gVar 5))
   (dSeq (dFor (dItems (dVar 2)) (gTupD (gsCons (gVar 6) (gsCons (gVar 7) gsNil)))
    (dSeq (dFor (dAny (dVar 3)) (gTupD (gsCons (gVar 8) (gsCons (gVar 9) gsNil)))
     (dSeq (dAsg (dCallF D_turned_at 3 0 [0, 1, 2] (dCons (dVar 6) (dCons (dVar 8) (dCons (dVar 9) dNil))) dNil) (gVar 10))
     (dSeq (dAsg (dOp opAdd (dMet "dict" opGet (dVar 5) (dCons (dVar 10) (dCons (dLit (.int 0)) dNil))) (dVar 7)) (gIx (dVar 5) (dVar 10)))
     dNop)))
    dNop))
   (dSeq (dAsg (dVar 5) (gVar 2))
   dNop)))
def cbEnd : DS := (dSeq (dFor (dRg1 (dCons (dVar 1) dNil)) (gVar 4) cbBody) (dSeq (dRet (dVar 2)) dNop))
theorem cb_split : f_counts_behind = dSeq cbPre cbEnd := rfl
theorem rel_cbPre {p q : Option PotSt} : Rel [] p q cbPre := by
  unfold cbPre
  repeat' first | refine rd_while ?_ ?_ _ | exact rd_nop | exact re_lit | exact re_empty | exact rt_yes | exact rs_nil | exact rgs_nil | exact ro_no | exact rg_var | exact re_var | refine rd_seq ?_ ?_ | refine rd_asg ?_ ?_ | refine rd_expr ?_ | refine rd_if ?_ ?_ ?_ | refine rd_ret ?_ | refine rd_par ?_ ?_ | refine rd_for ?_ ?_ ?_ | refine rg_tup ?_ | refine rg_ix ?_ ?_ | refine rgs_cons ?_ ?_ | refine ri_any ?_ | refine ri_items ?_ | refine ri_rg1 ?_ | refine ri_rg2 ?_ | refine ri_enum ?_ | refine re_lc ?_ ?_ ?_ ?_ | refine rs_cons ?_ ?_ | refine rs_consP ?_ ?_ | refine re_tup ?_ | refine re_lst ?_ | refine re_disp1 ?_ ?_ | refine re_rgT2 ?_ ?_ | refine re_slice ?_ ?_ ?_ | refine re_rev ?_ | refine ro_part ?_ | refine re_mut ?_ ?_ | refine re_val ?_ | refine rt_bool ?_ | refine rt_and ?_ ?_ | refine rt_neRepr ?_ ?_ | refine rt_asB ?_ | refine re_if ?_ ?_ ?_ | refine re_op ns_opAdd ?_ ?_ | refine re_op ns_opSub ?_ ?_ | refine re_op ns_opMul ?_ ?_ | refine re_op ns_opFDiv ?_ ?_ | refine re_op ns_opMod ?_ ?_ | refine re_op ns_opPow ?_ ?_ | refine re_op ns_opEq ?_ ?_ | refine re_op ns_opNe ?_ ?_ | refine re_op ns_opLt ?_ ?_ | refine re_op ns_opLe ?_ ?_ | refine re_op ns_opGt ?_ ?_ | refine re_op ns_opGe ?_ ?_ | refine re_op ns_opIn ?_ ?_ | refine re_op ns_opNotIn ?_ ?_ | refine re_op ns_opIx ?_ ?_ | refine re_callB ns_opAbs ?_ | refine re_callB ns_opInt ?_ | refine re_callB ns_opLen ?_ | refine re_callB ns_opTuple ?_ | refine re_callB ns_opList ?_ | refine re_callB ns_opSum ?_ | refine re_callB ns_opSorted ?_ | refine re_callB ns_opDict ?_ | refine re_callB ns_opGet ?_ | refine re_callB ns_opMin2 ?_ | refine re_callB ns_opMax2 ?_ | refine re_callB ns_opAny ?_ | refine re_callB ns_opAll ?_ | refine re_met ns_opGet ?_ ?_ | refine re_op1 ns_opNeg ?_ | refine rt_or ?_ ?_ | refine rt_not ?_ | refine re_sumV ?_ | refine re_listV ?_ | refine ri_zip ?_ | refine ri_values ?_ | exact rd_never | refine re_callF rel_all_turns ?_ ?_
theorem rel_cbBody {p q : Option PotSt} : Rel [1] p q cbBody := by
  unfold cbBody
  repeat' first | refine rd_while ?_ ?_ _ | exact rd_nop | exact re_lit | exact re_empty | exact rt_yes | exact rs_nil | exact rgs_nil | exact ro_no | exact rg_var | exact re_var | refine rd_seq ?_ ?_ | refine rd_asg ?_ ?_ | refine rd_expr ?_ | refine rd_if ?_ ?_ ?_ | refine rd_ret ?_ | refine rd_par ?_ ?_ | refine rd_for ?_ ?_ ?_ | refine rg_tup ?_ | refine rg_ix ?_ ?_ | refine rgs_cons ?_ ?_ | refine ri_any ?_ | refine ri_items ?_ | refine ri_rg1 ?_ | refine ri_rg2 ?_ | refine ri_enum ?_ | refine re_lc ?_ ?_ ?_ ?_ | refine rs_cons ?_ ?_ | refine rs_consP ?_ ?_ | refine re_tup ?_ | refine re_lst ?_ | refine re_disp1 ?_ ?_ | refine re_rgT2 ?_ ?_ | refine re_slice ?_ ?_ ?_ | refine re_rev ?_ | refine ro_part ?_ | refine re_mut ?_ ?_ | refine re_val ?_ | refine rt_bool ?_ | refine rt_and ?_ ?_ | refine rt_neRepr ?_ ?_ | refine rt_asB ?_ | refine re_if ?_ ?_ ?_ | refine re_op ns_opAdd ?_ ?_ | refine re_op ns_opSub ?_ ?_ | refine re_op ns_opMul ?_ ?_ | refine re_op ns_opFDiv ?_ ?_ | refine re_op ns_opMod ?_ ?_ | refine re_op ns_opPow ?_ ?_ | refine re_op ns_opEq ?_ ?_ | refine re_op ns_opNe ?_ ?_ | refine re_op ns_opLt ?_ ?_ | refine re_op ns_opLe ?_ ?_ | refine re_op ns_opGt ?_ ?_ | refine re_op ns_opGe ?_ ?_ | refine re_op ns_opIn ?_ ?_ | refine re_op ns_opNotIn ?_ ?_ | refine re_op ns_opIx ?_ ?_ | refine re_callB ns_opAbs ?_ | refine re_callB ns_opInt ?_ | refine re_callB ns_opLen ?_ | refine re_callB ns_opTuple ?_ | refine re_callB ns_opList ?_ | refine re_callB ns_opSum ?_ | refine re_callB ns_opSorted ?_ | refine re_callB ns_opDict ?_ | refine re_callB ns_opGet ?_ | refine re_callB ns_opMin2 ?_ | refine re_callB ns_opMax2 ?_ | refine re_callB ns_opAny ?_ | refine re_callB ns_opAll ?_ | refine re_met ns_opGet ?_ ?_ | refine re_op1 ns_opNeg ?_ | refine rt_or ?_ ?_ | refine rt_not ?_ | refine re_sumV ?_ | refine re_listV ?_ | refine ri_zip ?_ | refine ri_values ?_ | exact rd_never | refine re_callF rel_turned_at ?_ ?_
theorem cbEnd_ok {E Em : List (Option Sl)} {m : Nat} {p : Option PotSt} {d : PyData} (h1 : E[1]? = some (some (.fz (.int m)))) (hm : small62 (m : Int) = true) (h2 : dForL (gVar 4) cbBody (rangeD 0 1 m) ⟨E, p⟩ = some (.nx, ⟨Em, p⟩)) (h3 : Em[2]? = some (some (.fz d))) : cbEnd ⟨E, p⟩ = some (.rt (.fz d), ⟨Em, p⟩) := by
  simp [cbEnd, dSeq, dFor, dRg1, dCons, dNil, dSet, dVar, settle, h1, hm, h2, dRet, h3, leave]
theorem cbEnd_ok0 {E Em : List (Option Sl)} {m : Nat} {p : Option PotSt} {d : PyData} (h1 : E[1]? = some (some (.fz (.int m)))) (hm : small62 (m : Int) = true) (h2 : dForL (gVar 4) cbBody (rangeD 0 1 m) ⟨E, p⟩ = some (.nx, ⟨Em, p⟩)) (h3 : Em[2]? = some (some (.own d))) : cbEnd ⟨E, p⟩ = some (.rt (.fr d), ⟨Em.set 2 none, p⟩) := by
  simp [cbEnd, dSeq, dFor, dRg1, dCons, dNil, dSet, dVar, settle, h1, hm, h2, dRet, h3, leave]
theorem counts_of {n m : Int} {E : List (Option Sl)} {p : Option PotSt} {v : Vl} {s : S} (h : eqR (cbPre ⟨envOf 11 [.d (.int n), .d (.int m)], none⟩) E = true) (h2 : cbEnd ⟨E, p⟩ = some (.rt v, s)) (h3 : s.pot = p) (hv : v.isSl = false ∧ v ≠ .pt ∧ v ≠ .gr ∧ ∀ o, v ≠ .ob o) : D_counts_behind [.d (.int n), .d (.int m)] p = some (v, p) := by
  unfold D_counts_behind runDef
  rw [cb_split]
  have h0 := rel_cbPre.pot (of_eqR h) (p := p)
  simp only [dSeq, h0, h2, List.length_cons, List.length_nil, if_true, h3, samePot_self]
  cases v with
  | fz d => simp [h3, samePot_self]
  | fr d => simp [h3, samePot_self]
  | sl i => cases hv.1
  | pt => exact absurd rfl hv.2.1
  | gr => exact absurd rfl hv.2.2.1
  | ob o => exact absurd rfl (hv.2.2.2 o)
def tn1 : PyData := .list [.tuple [.int 0, .int 0]]
def cb1_0 : List (PyData × PyData) := tb [([1], 1)]
def cs1_0 (e : Option Sl) : List (Option Sl) := [some (.fz (.int 1)), e, some (.own (.dict cb1_0)), some (.own tn1), none, none, none, none, none, none, none]
def cb1_1 : List (PyData × PyData) := tb [([-1], 1)]
def cs1_1 (e : Option Sl) : List (Option Sl) := [some (.fz (.int 1)), e, some (.fz (.dict cb1_1)), some (.fz tn1), some (.fz (.int 0)), some (.fz (.dict cb1_1)), some (.fz (tr [1])), some (.fz (.int 1)), some (.fz (.int 0)), some (.fz (.int 0)), some (.fz (tr [-1]))]
theorem cstep1_0 : eqR (dTurn (gVar 4) cbBody (.int 0) ⟨cs1_0 (some (.fz (.int 0))), none⟩) (cs1_1 (some (.fz (.int 0)))) = true := by decide +kernel
def cb1_2 : List (PyData × PyData) := tb [([1], 1)]
def cs1_2 (e : Option Sl) : List (Option Sl) := [some (.fz (.int 1)), e, some (.fz (.dict cb1_2)), some (.fz tn1), some (.fz (.int 1)), some (.fz (.dict cb1_2)), some (.fz (tr [-1])), some (.fz (.int 1)), some (.fz (.int 0)), some (.fz (.int 0)), some (.fz (tr [1]))]
theorem cstep1_1 : eqR (dTurn (gVar 4) cbBody (.int 1) ⟨cs1_1 (some (.fz (.int 0))), none⟩) (cs1_2 (some (.fz (.int 0)))) = true := by decide +kernel
def cb1_3 : List (PyData × PyData) := tb [([-1], 1)]
def cs1_3 (e : Option Sl) : List (Option Sl) := [some (.fz (.int 1)), e, some (.fz (.dict cb1_3)), some (.fz tn1), some (.fz (.int 2)), some (.fz (.dict cb1_3)), some (.fz (tr [1])), some (.fz (.int 1)), some (.fz (.int 0)), some (.fz (.int 0)), some (.fz (tr [-1]))]
theorem cstep1_2 : eqR (dTurn (gVar 4) cbBody (.int 2) ⟨cs1_2 (some (.fz (.int 0))), none⟩) (cs1_3 (some (.fz (.int 0)))) = true := by decide +kernel
def cb1_4 : List (PyData × PyData) := tb [([1], 1)]
def cs1_4 (e : Option Sl) : List (Option Sl) := [some (.fz (.int 1)), e, some (.fz (.dict cb1_4)), some (.fz tn1), some (.fz (.int 3)), some (.fz (.dict cb1_4)), some (.fz (tr [-1])), some (.fz (.int 1)), some (.fz (.int 0)), some (.fz (.int 0)), some (.fz (tr [1]))]
theorem cstep1_3 : eqR (dTurn (gVar 4) cbBody (.int 3) ⟨cs1_3 (some (.fz (.int 0))), none⟩) (cs1_4 (some (.fz (.int 0)))) = true := by decide +kernel
def cb1_5 : List (PyData × PyData) := tb [([-1], 1)]
def cs1_5 (e : Option Sl) : List (Option Sl) := [some (.fz (.int 1)), e, some (.fz (.dict cb1_5)), some (.fz tn1), some (.fz (.int 4)), some (.fz (.dict cb1_5)), some (.fz (tr [1])), some (.fz (.int 1)), some (.fz (.int 0)), some (.fz (.int 0)), some (.fz (tr [-1]))]
theorem cstep1_4 : eqR (dTurn (gVar 4) cbBody (.int 4) ⟨cs1_4 (some (.fz (.int 0))), none⟩) (cs1_5 (some (.fz (.int 0)))) = true := by decide +kernel
def cb1_6 : List (PyData × PyData) := tb [([1], 1)]
def cs1_6 (e : Option Sl) : List (Option Sl) := [some (.fz (.int 1)), e, some (.fz (.dict cb1_6)), some (.fz tn1), some (.fz (.int 5)), some (.fz (.dict cb1_6)), some (.fz (tr [-1])), some (.fz (.int 1)), some (.fz (.int 0)), some (.fz (.int 0)), some (.fz (tr [1]))]
theorem cstep1_5 : eqR (dTurn (gVar 4) cbBody (.int 5) ⟨cs1_5 (some (.fz (.int 0))), none⟩) (cs1_6 (some (.fz (.int 0)))) = true := by decide +kernel
def cb1_7 : List (PyData × PyData) := tb [([-1], 1)]
def cs1_7 (e : Option Sl) : List (Option Sl) := [some (.fz (.int 1)), e, some (.fz (.dict cb1_7)), some (.fz tn1), some (.fz (.int 6)), some (.fz (.dict cb1_7)), some (.fz (tr [1])), some (.fz (.int 1)), some (.fz (.int 0)), some (.fz (.int 0)), some (.fz (tr [-1]))]
theorem cstep1_6 : eqR (dTurn (gVar 4) cbBody (.int 6) ⟨cs1_6 (some (.fz (.int 0))), none⟩) (cs1_7 (some (.fz (.int 0)))) = true := by decide +kernel
def cb1_8 : List (PyData × PyData) := tb [([1], 1)]
def cs1_8 (e : Option Sl) : List (Option Sl) := [some (.fz (.int 1)), e, some (.fz (.dict cb1_8)), some (.fz tn1), some (.fz (.int 7)), some (.fz (.dict cb1_8)), some (.fz (tr [-1])), some (.fz (.int 1)), some (.fz (.int 0)), some (.fz (.int 0)), some (.fz (tr [1]))]
theorem cstep1_7 : eqR (dTurn (gVar 4) cbBody (.int 7) ⟨cs1_7 (some (.fz (.int 0))), none⟩) (cs1_8 (some (.fz (.int 0)))) = true := by decide +kernel
def cb1_9 : List (PyData × PyData) := tb [([-1], 1)]
def cs1_9 (e : Option Sl) : List (Option Sl) := [some (.fz (.int 1)), e, some (.fz (.dict cb1_9)), some (.fz tn1), some (.fz (.int 8)), some (.fz (.dict cb1_9)), some (.fz (tr [1])), some (.fz (.int 1)), some (.fz (.int 0)), some (.fz (.int 0)), some (.fz (tr [-1]))]
theorem cstep1_8 : eqR (dTurn (gVar 4) cbBody (.int 8) ⟨cs1_8 (some (.fz (.int 0))), none⟩) (cs1_9 (some (.fz (.int 0)))) = true := by decide +kernel
def cb1_10 : List (PyData × PyData) := tb [([1], 1)]
def cs1_10 (e : Option Sl) : List (Option Sl) := [some (.fz (.int 1)), e, some (.fz (.dict cb1_10)), some (.fz tn1), some (.fz (.int 9)), some (.fz (.dict cb1_10)), some (.fz (tr [-1])), some (.fz (.int 1)), some (.fz (.int 0)), some (.fz (.int 0)), some (.fz (tr [1]))]
theorem cstep1_9 : eqR (dTurn (gVar 4) cbBody (.int 9) ⟨cs1_9 (some (.fz (.int 0))), none⟩) (cs1_10 (some (.fz (.int 0)))) = true := by decide +kernel
def cb1_11 : List (PyData × PyData) := tb [([-1], 1)]
def cs1_11 (e : Option Sl) : List (Option Sl) := [some (.fz (.int 1)), e, some (.fz (.dict cb1_11)), some (.fz tn1), some (.fz (.int 10)), some (.fz (.dict cb1_11)), some (.fz (tr [1])), some (.fz (.int 1)), some (.fz (.int 0)), some (.fz (.int 0)), some (.fz (tr [-1]))]
theorem cstep1_10 : eqR (dTurn (gVar 4) cbBody (.int 10) ⟨cs1_10 (some (.fz (.int 0))), none⟩) (cs1_11 (some (.fz (.int 0)))) = true := by decide +kernel
def cb1_12 : List (PyData × PyData) := tb [([1], 1)]
def cs1_12 (e : Option Sl) : List (Option Sl) := [some (.fz (.int 1)), e, some (.fz (.dict cb1_12)), some (.fz tn1), some (.fz (.int 11)), some (.fz (.dict cb1_12)), some (.fz (tr [-1])), some (.fz (.int 1)), some (.fz (.int 0)), some (.fz (.int 0)), some (.fz (tr [1]))]
theorem cstep1_11 : eqR (dTurn (gVar 4) cbBody (.int 11) ⟨cs1_11 (some (.fz (.int 0))), none⟩) (cs1_12 (some (.fz (.int 0)))) = true := by decide +kernel
def tn2 : PyData := .list [.tuple [.int 0, .int 0], .tuple [.int 0, .int 1], .tuple [.int 1, .int 1]]
def cb2_0 : List (PyData × PyData) := tb [([1, 2], 1)]
def cs2_0 (e : Option Sl) : List (Option Sl) := [some (.fz (.int 2)), e, some (.own (.dict cb2_0)), some (.own tn2), none, none, none, none, none, none, none]
def cb2_1 : List (PyData × PyData) := tb [([-1, 2], 1), ([-2, -1], 1), ([1, -2], 1)]
def cs2_1 (e : Option Sl) : List (Option Sl) := [some (.fz (.int 2)), e, some (.fz (.dict cb2_1)), some (.fz tn2), some (.fz (.int 0)), some (.fz (.dict cb2_1)), some (.fz (tr [1, 2])), some (.fz (.int 1)), some (.fz (.int 1)), some (.fz (.int 1)), some (.fz (tr [1, -2]))]
theorem cstep2_0 : eqR (dTurn (gVar 4) cbBody (.int 0) ⟨cs2_0 (some (.fz (.int 0))), none⟩) (cs2_1 (some (.fz (.int 0)))) = true := by decide +kernel
def cb2_2 : List (PyData × PyData) := tb [([1, 2], 3), ([-2, 1], 2), ([-1, -2], 2), ([2, -1], 2)]
def cs2_2 (e : Option Sl) : List (Option Sl) := [some (.fz (.int 2)), e, some (.fz (.dict cb2_2)), some (.fz tn2), some (.fz (.int 1)), some (.fz (.dict cb2_2)), some (.fz (tr [1, -2])), some (.fz (.int 1)), some (.fz (.int 1)), some (.fz (.int 1)), some (.fz (tr [1, 2]))]
theorem cstep2_1 : eqR (dTurn (gVar 4) cbBody (.int 1) ⟨cs2_1 (some (.fz (.int 0))), none⟩) (cs2_2 (some (.fz (.int 0)))) = true := by decide +kernel
def cb2_3 : List (PyData × PyData) := tb [([-1, 2], 7), ([-2, -1], 7), ([1, -2], 7), ([2, 1], 6)]
def cs2_3 (e : Option Sl) : List (Option Sl) := [some (.fz (.int 2)), e, some (.fz (.dict cb2_3)), some (.fz tn2), some (.fz (.int 2)), some (.fz (.dict cb2_3)), some (.fz (tr [2, -1])), some (.fz (.int 2)), some (.fz (.int 1)), some (.fz (.int 1)), some (.fz (tr [2, 1]))]
theorem cstep2_2 : eqR (dTurn (gVar 4) cbBody (.int 2) ⟨cs2_2 (some (.fz (.int 0))), none⟩) (cs2_3 (some (.fz (.int 0)))) = true := by decide +kernel
def cb2_4 : List (PyData × PyData) := tb [([1, 2], 21), ([-2, 1], 20), ([-1, -2], 20), ([2, -1], 20)]
def cs2_4 (e : Option Sl) : List (Option Sl) := [some (.fz (.int 2)), e, some (.fz (.dict cb2_4)), some (.fz tn2), some (.fz (.int 3)), some (.fz (.dict cb2_4)), some (.fz (tr [2, 1])), some (.fz (.int 6)), some (.fz (.int 1)), some (.fz (.int 1)), some (.fz (tr [2, -1]))]
theorem cstep2_3 : eqR (dTurn (gVar 4) cbBody (.int 3) ⟨cs2_3 (some (.fz (.int 0))), none⟩) (cs2_4 (some (.fz (.int 0)))) = true := by decide +kernel
def cb2_5 : List (PyData × PyData) := tb [([-1, 2], 61), ([-2, -1], 61), ([1, -2], 61), ([2, 1], 60)]
def cs2_5 (e : Option Sl) : List (Option Sl) := [some (.fz (.int 2)), e, some (.fz (.dict cb2_5)), some (.fz tn2), some (.fz (.int 4)), some (.fz (.dict cb2_5)), some (.fz (tr [2, -1])), some (.fz (.int 20)), some (.fz (.int 1)), some (.fz (.int 1)), some (.fz (tr [2, 1]))]
theorem cstep2_4 : eqR (dTurn (gVar 4) cbBody (.int 4) ⟨cs2_4 (some (.fz (.int 0))), none⟩) (cs2_5 (some (.fz (.int 0)))) = true := by decide +kernel
def cb2_6 : List (PyData × PyData) := tb [([1, 2], 183), ([-2, 1], 182), ([-1, -2], 182), ([2, -1], 182)]
def cs2_6 (e : Option Sl) : List (Option Sl) := [some (.fz (.int 2)), e, some (.fz (.dict cb2_6)), some (.fz tn2), some (.fz (.int 5)), some (.fz (.dict cb2_6)), some (.fz (tr [2, 1])), some (.fz (.int 60)), some (.fz (.int 1)), some (.fz (.int 1)), some (.fz (tr [2, -1]))]
theorem cstep2_5 : eqR (dTurn (gVar 4) cbBody (.int 5) ⟨cs2_5 (some (.fz (.int 0))), none⟩) (cs2_6 (some (.fz (.int 0)))) = true := by decide +kernel
def cb2_7 : List (PyData × PyData) := tb [([-1, 2], 547), ([-2, -1], 547), ([1, -2], 547), ([2, 1], 546)]
def cs2_7 (e : Option Sl) : List (Option Sl) := [some (.fz (.int 2)), e, some (.fz (.dict cb2_7)), some (.fz tn2), some (.fz (.int 6)), some (.fz (.dict cb2_7)), some (.fz (tr [2, -1])), some (.fz (.int 182)), some (.fz (.int 1)), some (.fz (.int 1)), some (.fz (tr [2, 1]))]
theorem cstep2_6 : eqR (dTurn (gVar 4) cbBody (.int 6) ⟨cs2_6 (some (.fz (.int 0))), none⟩) (cs2_7 (some (.fz (.int 0)))) = true := by decide +kernel
def cb2_8 : List (PyData × PyData) := tb [([1, 2], 1641), ([-2, 1], 1640), ([-1, -2], 1640), ([2, -1], 1640)]
def cs2_8 (e : Option Sl) : List (Option Sl) := [some (.fz (.int 2)), e, some (.fz (.dict cb2_8)), some (.fz tn2), some (.fz (.int 7)), some (.fz (.dict cb2_8)), some (.fz (tr [2, 1])), some (.fz (.int 546)), some (.fz (.int 1)), some (.fz (.int 1)), some (.fz (tr [2, -1]))]
theorem cstep2_7 : eqR (dTurn (gVar 4) cbBody (.int 7) ⟨cs2_7 (some (.fz (.int 0))), none⟩) (cs2_8 (some (.fz (.int 0)))) = true := by decide +kernel
def cb2_9 : List (PyData × PyData) := tb [([-1, 2], 4921), ([-2, -1], 4921), ([1, -2], 4921), ([2, 1], 4920)]
def cs2_9 (e : Option Sl) : List (Option Sl) := [some (.fz (.int 2)), e, some (.fz (.dict cb2_9)), some (.fz tn2), some (.fz (.int 8)), some (.fz (.dict cb2_9)), some (.fz (tr [2, -1])), some (.fz (.int 1640)), some (.fz (.int 1)), some (.fz (.int 1)), some (.fz (tr [2, 1]))]
theorem cstep2_8 : eqR (dTurn (gVar 4) cbBody (.int 8) ⟨cs2_8 (some (.fz (.int 0))), none⟩) (cs2_9 (some (.fz (.int 0)))) = true := by decide +kernel
def cb2_10 : List (PyData × PyData) := tb [([1, 2], 14763), ([-2, 1], 14762), ([-1, -2], 14762), ([2, -1], 14762)]
def cs2_10 (e : Option Sl) : List (Option Sl) := [some (.fz (.int 2)), e, some (.fz (.dict cb2_10)), some (.fz tn2), some (.fz (.int 9)), some (.fz (.dict cb2_10)), some (.fz (tr [2, 1])), some (.fz (.int 4920)), some (.fz (.int 1)), some (.fz (.int 1)), some (.fz (tr [2, -1]))]
theorem cstep2_9 : eqR (dTurn (gVar 4) cbBody (.int 9) ⟨cs2_9 (some (.fz (.int 0))), none⟩) (cs2_10 (some (.fz (.int 0)))) = true := by decide +kernel
def cb2_11 : List (PyData × PyData) := tb [([-1, 2], 44287), ([-2, -1], 44287), ([1, -2], 44287), ([2, 1], 44286)]
def cs2_11 (e : Option Sl) : List (Option Sl) := [some (.fz (.int 2)), e, some (.fz (.dict cb2_11)), some (.fz tn2), some (.fz (.int 10)), some (.fz (.dict cb2_11)), some (.fz (tr [2, -1])), some (.fz (.int 14762)), some (.fz (.int 1)), some (.fz (.int 1)), some (.fz (tr [2, 1]))]
theorem cstep2_10 : eqR (dTurn (gVar 4) cbBody (.int 10) ⟨cs2_10 (some (.fz (.int 0))), none⟩) (cs2_11 (some (.fz (.int 0)))) = true := by decide +kernel
def cb2_12 : List (PyData × PyData) := tb [([1, 2], 132861), ([-2, 1], 132860), ([-1, -2], 132860), ([2, -1], 132860)]
def cs2_12 (e : Option Sl) : List (Option Sl) := [some (.fz (.int 2)), e, some (.fz (.dict cb2_12)), some (.fz tn2), some (.fz (.int 11)), some (.fz (.dict cb2_12)), some (.fz (tr [2, 1])), some (.fz (.int 44286)), some (.fz (.int 1)), some (.fz (.int 1)), some (.fz (tr [2, -1]))]
theorem cstep2_11 : eqR (dTurn (gVar 4) cbBody (.int 11) ⟨cs2_11 (some (.fz (.int 0))), none⟩) (cs2_12 (some (.fz (.int 0)))) = true := by decide +kernel
def tn3 : PyData := .list [.tuple [.int 0, .int 0], .tuple [.int 0, .int 1], .tuple [.int 0, .int 2], .tuple [.int 1, .int 1], .tuple [.int 1, .int 2], .tuple [.int 2, .int 2]]
def cb3_0 : List (PyData × PyData) := tb [([1, 2, 3], 1)]
def cs3_0 (e : Option Sl) : List (Option Sl) := [some (.fz (.int 3)), e, some (.own (.dict cb3_0)), some (.own tn3), none, none, none, none, none, none, none]
def cb3_1 : List (PyData × PyData) := tb [([-1, 2, 3], 1), ([-2, -1, 3], 1), ([-3, -2, -1], 1), ([1, -2, 3], 1), ([1, -3, -2], 1), ([1, 2, -3], 1)]
def cs3_1 (e : Option Sl) : List (Option Sl) := [some (.fz (.int 3)), e, some (.fz (.dict cb3_1)), some (.fz tn3), some (.fz (.int 0)), some (.fz (.dict cb3_1)), some (.fz (tr [1, 2, 3])), some (.fz (.int 1)), some (.fz (.int 2)), some (.fz (.int 2)), some (.fz (tr [1, 2, -3]))]
theorem cstep3_0 : eqR (dTurn (gVar 4) cbBody (.int 0) ⟨cs3_0 (some (.fz (.int 0))), none⟩) (cs3_1 (some (.fz (.int 0)))) = true := by decide +kernel
def cb3_2 : List (PyData × PyData) := tb [([1, 2, 3], 6), ([-2, 1, 3], 2), ([-3, -2, 1], 2), ([-1, -2, 3], 2), ([-1, -3, -2], 2), ([-1, 2, -3], 2), ([2, -1, 3], 2), ([-3, 1, 2], 2), ([-2, -3, 1], 1), ([-2, -1, -3], 2), ([3, -2, -1], 2), ([2, 3, -1], 2), ([-3, 2, -1], 2), ([1, -3, 2], 2), ([1, -2, -3], 2), ([3, -1, -2], 1), ([1, 3, -2], 2)]
def cs3_2 (e : Option Sl) : List (Option Sl) := [some (.fz (.int 3)), e, some (.fz (.dict cb3_2)), some (.fz tn3), some (.fz (.int 1)), some (.fz (.dict cb3_2)), some (.fz (tr [1, 2, -3])), some (.fz (.int 1)), some (.fz (.int 2)), some (.fz (.int 2)), some (.fz (tr [1, 2, 3]))]
theorem cstep3_1 : eqR (dTurn (gVar 4) cbBody (.int 1) ⟨cs3_1 (some (.fz (.int 0))), none⟩) (cs3_2 (some (.fz (.int 0)))) = true := by decide +kernel
def cb3_3 : List (PyData × PyData) := tb [([-1, 2, 3], 16), ([-2, -1, 3], 15), ([-3, -2, -1], 16), ([1, -2, 3], 16), ([1, -3, -2], 15), ([1, 2, -3], 16), ([2, 1, 3], 6), ([-3, -1, 2], 6), ([-2, -3, -1], 3), ([-2, 1, -3], 6), ([3, -2, 1], 6), ([2, 3, 1], 6), ([-3, 2, 1], 6), ([-1, -3, 2], 6), ([-1, -2, -3], 6), ([3, 1, -2], 3), ([-1, 3, -2], 6), ([-3, 1, -2], 6), ([2, -3, 1], 3), ([2, -1, -3], 6), ([3, 1, 2], 6), ([-1, 3, 2], 3), ([3, 2, 1], 2), ([-2, 3, 1], 3), ([2, -3, -1], 6), ([3, 2, -1], 6), ([-2, 3, -1], 6), ([2, 1, -3], 3), ([3, -1, 2], 3), ([1, 3, 2], 6), ([-3, -1, -2], 3)]
def cs3_3 (e : Option Sl) : List (Option Sl) := [some (.fz (.int 3)), e, some (.fz (.dict cb3_3)), some (.fz tn3), some (.fz (.int 2)), some (.fz (.dict cb3_3)), some (.fz (tr [1, 3, -2])), some (.fz (.int 2)), some (.fz (.int 2)), some (.fz (.int 2)), some (.fz (tr [1, 3, 2]))]
theorem cstep3_2 : eqR (dTurn (gVar 4) cbBody (.int 2) ⟨cs3_2 (some (.fz (.int 0))), none⟩) (cs3_3 (some (.fz (.int 0)))) = true := by decide +kernel
def cb3_4 : List (PyData × PyData) := tb [([1, 2, 3], 94), ([-2, 1, 3], 52), ([-3, -2, 1], 56), ([-1, -2, 3], 56), ([-1, -3, -2], 52), ([-1, 2, -3], 56), ([2, -1, 3], 52), ([-3, 1, 2], 52), ([-2, -3, 1], 29), ([-2, -1, -3], 52), ([3, -2, -1], 56), ([2, 3, -1], 52), ([-3, 2, -1], 56), ([1, -3, 2], 52), ([1, -2, -3], 56), ([3, -1, -2], 29), ([1, 3, -2], 52), ([-3, -1, -2], 24), ([2, -3, -1], 12), ([2, 1, -3], 24), ([3, -1, 2], 24), ([1, 3, 2], 12), ([3, 2, -1], 8), ([-2, 3, -1], 12), ([2, -3, 1], 24), ([3, 2, 1], 24), ([-2, 3, 1], 24), ([2, -1, -3], 12), ([3, 1, 2], 12), ([-1, 3, 2], 24), ([-3, 1, -2], 12), ([3, 1, -2], 24), ([-1, 3, -2], 12), ([3, -2, 1], 8), ([2, 3, 1], 12), ([-1, -3, 2], 12), ([-1, -2, -3], 8), ([-3, 2, 1], 8), ([-2, -3, -1], 24), ([2, 1, 3], 12), ([-2, 1, -3], 12), ([-3, -1, 2], 12)]
def cs3_4 (e : Option Sl) : List (Option Sl) := [some (.fz (.int 3)), e, some (.fz (.dict cb3_4)), some (.fz tn3), some (.fz (.int 3)), some (.fz (.dict cb3_4)), some (.fz (tr [-3, -1, -2])), some (.fz (.int 3)), some (.fz (.int 2)), some (.fz (.int 2)), some (.fz (tr [-3, -1, 2]))]
theorem cstep3_3 : eqR (dTurn (gVar 4) cbBody (.int 3) ⟨cs3_3 (some (.fz (.int 0))), none⟩) (cs3_4 (some (.fz (.int 0)))) = true := by decide +kernel
def cb3_5 : List (PyData × PyData) := tb [([-1, 2, 3], 366), ([-2, -1, 3], 331), ([-3, -2, -1], 366), ([1, -2, 3], 366), ([1, -3, -2], 331), ([1, 2, -3], 366), ([2, 1, 3], 220), ([-3, -1, 2], 220), ([-2, -3, -1], 125), ([-2, 1, -3], 220), ([3, -2, 1], 240), ([2, 3, 1], 220), ([-3, 2, 1], 240), ([-1, -3, 2], 220), ([-1, -2, -3], 240), ([3, 1, -2], 125), ([-1, 3, -2], 220), ([-3, 1, -2], 220), ([2, -3, 1], 125), ([2, -1, -3], 220), ([3, 1, 2], 220), ([-1, 3, 2], 125), ([3, 2, 1], 90), ([-2, 3, 1], 125), ([2, -3, -1], 220), ([3, 2, -1], 240), ([-2, 3, -1], 220), ([2, 1, -3], 125), ([3, -1, 2], 125), ([1, 3, 2], 220), ([-3, -1, -2], 125), ([3, -1, -2], 120), ([1, 3, -2], 60), ([3, -2, -1], 40), ([2, 3, -1], 60), ([1, -3, 2], 60), ([1, -2, -3], 40), ([-3, 2, -1], 40), ([-2, -3, 1], 120), ([2, -1, 3], 60), ([-2, -1, -3], 60), ([-3, 1, 2], 60), ([-1, -3, -2], 60), ([-1, 2, -3], 40), ([-3, -2, 1], 40), ([-1, -2, 3], 40), ([-2, 1, 3], 60)]
def cs3_5 (e : Option Sl) : List (Option Sl) := [some (.fz (.int 3)), e, some (.fz (.dict cb3_5)), some (.fz tn3), some (.fz (.int 4)), some (.fz (.dict cb3_5)), some (.fz (tr [-3, -1, 2])), some (.fz (.int 12)), some (.fz (.int 2)), some (.fz (.int 2)), some (.fz (tr [-3, -1, -2]))]
theorem cstep3_4 : eqR (dTurn (gVar 4) cbBody (.int 4) ⟨cs3_4 (some (.fz (.int 0))), none⟩) (cs3_5 (some (.fz (.int 0)))) = true := by decide +kernel
def cb3_6 : List (PyData × PyData) := tb [([1, 2, 3], 2126), ([-2, 1, 3], 1482), ([-3, -2, 1], 1652), ([-1, -2, 3], 1652), ([-1, -3, -2], 1482), ([-1, 2, -3], 1652), ([2, -1, 3], 1482), ([-3, 1, 2], 1482), ([-2, -3, 1], 921), ([-2, -1, -3], 1482), ([3, -2, -1], 1652), ([2, 3, -1], 1482), ([-3, 2, -1], 1652), ([1, -3, 2], 1482), ([1, -2, -3], 1652), ([3, -1, -2], 921), ([1, 3, -2], 1482), ([-3, -1, -2], 1080), ([2, -3, -1], 630), ([2, 1, -3], 1080), ([3, -1, 2], 1080), ([1, 3, 2], 630), ([3, 2, -1], 460), ([-2, 3, -1], 630), ([2, -3, 1], 1080), ([3, 2, 1], 1200), ([-2, 3, 1], 1080), ([2, -1, -3], 630), ([3, 1, 2], 630), ([-1, 3, 2], 1080), ([-3, 1, -2], 630), ([3, 1, -2], 1080), ([-1, 3, -2], 630), ([3, -2, 1], 460), ([2, 3, 1], 630), ([-1, -3, 2], 630), ([-1, -2, -3], 460), ([-3, 2, 1], 460), ([-2, -3, -1], 1080), ([2, 1, 3], 630), ([-2, 1, -3], 630), ([-3, -1, 2], 630), ([1, -3, -2], 360), ([1, 2, -3], 240), ([-3, -2, -1], 240), ([1, -2, 3], 240), ([-2, -1, 3], 360), ([-1, 2, 3], 240)]
def cs3_6 (e : Option Sl) : List (Option Sl) := [some (.fz (.int 3)), e, some (.fz (.dict cb3_6)), some (.fz tn3), some (.fz (.int 5)), some (.fz (.dict cb3_6)), some (.fz (tr [-2, 1, 3])), some (.fz (.int 60)), some (.fz (.int 2)), some (.fz (.int 2)), some (.fz (tr [-2, 1, -3]))]
theorem cstep3_5 : eqR (dTurn (gVar 4) cbBody (.int 5) ⟨cs3_5 (some (.fz (.int 0))), none⟩) (cs3_6 (some (.fz (.int 0)))) = true := by decide +kernel
def cb3_7 : List (PyData × PyData) := tb [([-1, 2, 3], 10046), ([-2, -1, 3], 8975), ([-3, -2, -1], 10046), ([1, -2, 3], 10046), ([1, -3, -2], 8975), ([1, 2, -3], 10046), ([2, 1, 3], 7406), ([-3, -1, 2], 7406), ([-2, -3, -1], 4753), ([-2, 1, -3], 7406), ([3, -2, 1], 8316), ([2, 3, 1], 7406), ([-3, 2, 1], 8316), ([-1, -3, 2], 7406), ([-1, -2, -3], 8316), ([3, 1, -2], 4753), ([-1, 3, -2], 7406), ([-3, 1, -2], 7406), ([2, -3, 1], 4753), ([2, -1, -3], 7406), ([3, 1, 2], 7406), ([-1, 3, 2], 4753), ([3, 2, 1], 3682), ([-2, 3, 1], 4753), ([2, -3, -1], 7406), ([3, 2, -1], 8316), ([-2, 3, -1], 7406), ([2, 1, -3], 4753), ([3, -1, 2], 4753), ([1, 3, 2], 7406), ([-3, -1, -2], 4753), ([3, -1, -2], 5880), ([1, 3, -2], 3570), ([3, -2, -1], 2660), ([2, 3, -1], 3570), ([1, -3, 2], 3570), ([1, -2, -3], 2660), ([-3, 2, -1], 2660), ([-2, -3, 1], 5880), ([2, -1, 3], 3570), ([-2, -1, -3], 3570), ([-3, 1, 2], 3570), ([-1, -3, -2], 3570), ([-1, 2, -3], 2660), ([-3, -2, 1], 2660), ([-1, -2, 3], 2660), ([-2, 1, 3], 3570), ([1, 2, 3], 1680)]
def cs3_7 (e : Option Sl) : List (Option Sl) := [some (.fz (.int 3)), e, some (.fz (.dict cb3_7)), some (.fz tn3), some (.fz (.int 6)), some (.fz (.dict cb3_7)), some (.fz (tr [-1, 2, 3])), some (.fz (.int 240)), some (.fz (.int 2)), some (.fz (.int 2)), some (.fz (tr [-1, 2, -3]))]
theorem cstep3_6 : eqR (dTurn (gVar 4) cbBody (.int 6) ⟨cs3_6 (some (.fz (.int 0))), none⟩) (cs3_7 (some (.fz (.int 0)))) = true := by decide +kernel
def cb3_8 : List (PyData × PyData) := tb [([1, 2, 3], 58134), ([-2, 1, 3], 45992), ([-3, -2, 1], 51536), ([-1, -2, 3], 51536), ([-1, -3, -2], 45992), ([-1, 2, -3], 51536), ([2, -1, 3], 45992), ([-3, 1, 2], 45992), ([-2, -3, 1], 31669), ([-2, -1, -3], 45992), ([3, -2, -1], 51536), ([2, 3, -1], 45992), ([-3, 2, -1], 51536), ([1, -3, 2], 45992), ([1, -2, -3], 51536), ([3, -1, -2], 31669), ([1, 3, -2], 45992), ([-3, -1, -2], 39984), ([2, -3, -1], 26712), ([2, 1, -3], 39984), ([3, -1, 2], 39984), ([1, 3, 2], 26712), ([3, 2, -1], 21168), ([-2, 3, -1], 26712), ([2, -3, 1], 39984), ([3, 2, 1], 45024), ([-2, 3, 1], 39984), ([2, -1, -3], 26712), ([3, 1, 2], 26712), ([-1, 3, 2], 39984), ([-3, 1, -2], 26712), ([3, 1, -2], 39984), ([-1, 3, -2], 26712), ([3, -2, 1], 21168), ([2, 3, 1], 26712), ([-1, -3, 2], 26712), ([-1, -2, -3], 21168), ([-3, 2, 1], 21168), ([-2, -3, -1], 39984), ([2, 1, 3], 26712), ([-2, 1, -3], 26712), ([-3, -1, 2], 26712), ([1, -3, -2], 21840), ([1, 2, -3], 16800), ([-3, -2, -1], 16800), ([1, -2, 3], 16800), ([-2, -1, 3], 21840), ([-1, 2, 3], 16800)]
def cs3_8 (e : Option Sl) : List (Option Sl) := [some (.fz (.int 3)), e, some (.fz (.dict cb3_8)), some (.fz tn3), some (.fz (.int 7)), some (.fz (.dict cb3_8)), some (.fz (tr [1, 2, 3])), some (.fz (.int 1680)), some (.fz (.int 2)), some (.fz (.int 2)), some (.fz (tr [1, 2, -3]))]
theorem cstep3_7 : eqR (dTurn (gVar 4) cbBody (.int 7) ⟨cs3_7 (some (.fz (.int 0))), none⟩) (cs3_8 (some (.fz (.int 0)))) = true := by decide +kernel
def cb3_9 : List (PyData × PyData) := tb [([-1, 2, 3], 304726), ([-2, -1, 3], 273771), ([-3, -2, -1], 304726), ([1, -2, 3], 304726), ([1, -3, -2], 273771), ([1, 2, -3], 304726), ([2, 1, 3], 250200), ([-3, -1, 2], 250200), ([-2, -3, -1], 178965), ([-2, 1, -3], 250200), ([3, -2, 1], 279600), ([2, 3, 1], 250200), ([-3, 2, 1], 279600), ([-1, -3, 2], 250200), ([-1, -2, -3], 279600), ([3, 1, -2], 178965), ([-1, 3, -2], 250200), ([-3, 1, -2], 250200), ([2, -3, 1], 178965), ([2, -1, -3], 250200), ([3, 1, 2], 250200), ([-1, 3, 2], 178965), ([3, 2, 1], 148010), ([-2, 3, 1], 178965), ([2, -3, -1], 250200), ([3, 2, -1], 279600), ([-2, 3, -1], 250200), ([2, 1, -3], 178965), ([3, -1, 2], 178965), ([1, 3, 2], 250200), ([-3, -1, -2], 178965), ([3, -1, -2], 226800), ([1, 3, -2], 158760), ([3, -2, -1], 129360), ([2, 3, -1], 158760), ([1, -3, 2], 158760), ([1, -2, -3], 129360), ([-3, 2, -1], 129360), ([-2, -3, 1], 226800), ([2, -1, 3], 158760), ([-2, -1, -3], 158760), ([-3, 1, 2], 158760), ([-1, -3, -2], 158760), ([-1, 2, -3], 129360), ([-3, -2, 1], 129360), ([-1, -2, 3], 129360), ([-2, 1, 3], 158760), ([1, 2, 3], 110880)]
def cs3_9 (e : Option Sl) : List (Option Sl) := [some (.fz (.int 3)), e, some (.fz (.dict cb3_9)), some (.fz tn3), some (.fz (.int 8)), some (.fz (.dict cb3_9)), some (.fz (tr [-1, 2, 3])), some (.fz (.int 16800)), some (.fz (.int 2)), some (.fz (.int 2)), some (.fz (tr [-1, 2, -3]))]
theorem cstep3_8 : eqR (dTurn (gVar 4) cbBody (.int 8) ⟨cs3_8 (some (.fz (.int 0))), none⟩) (cs3_9 (some (.fz (.int 0)))) = true := by decide +kernel
def cb3_10 : List (PyData × PyData) := tb [([1, 2, 3], 1766446), ([-2, 1, 3], 1508062), ([-3, -2, 1], 1669052), ([-1, -2, 3], 1669052), ([-1, -3, -2], 1508062), ([-1, 2, -3], 1669052), ([2, -1, 3], 1508062), ([-3, 1, 2], 1508062), ([-2, -3, 1], 1137641), ([-2, -1, -3], 1508062), ([3, -2, -1], 1669052), ([2, 3, -1], 1508062), ([-3, 2, -1], 1669052), ([1, -3, 2], 1508062), ([1, -2, -3], 1669052), ([3, -1, -2], 1137641), ([1, 3, -2], 1508062), ([-3, -1, -2], 1415760), ([2, -3, -1], 1055010), ([2, 1, -3], 1415760), ([3, -1, 2], 1415760), ([1, 3, 2], 1055010), ([3, 2, -1], 894020), ([-2, 3, -1], 1055010), ([2, -3, 1], 1415760), ([3, 2, 1], 1572000), ([-2, 3, 1], 1415760), ([2, -1, -3], 1055010), ([3, 1, 2], 1055010), ([-1, 3, 2], 1415760), ([-3, 1, -2], 1055010), ([3, 1, -2], 1415760), ([-1, 3, -2], 1055010), ([3, -2, 1], 894020), ([2, 3, 1], 1055010), ([-1, -3, 2], 1055010), ([-1, -2, -3], 894020), ([-3, 2, 1], 894020), ([-2, -3, -1], 1415760), ([2, 1, 3], 1055010), ([-2, 1, -3], 1055010), ([-3, -1, 2], 1055010), ([1, -3, -2], 972720), ([1, 2, -3], 816480), ([-3, -2, -1], 816480), ([1, -2, 3], 816480), ([-2, -1, 3], 972720), ([-1, 2, 3], 816480)]
def cs3_10 (e : Option Sl) : List (Option Sl) := [some (.fz (.int 3)), e, some (.fz (.dict cb3_10)), some (.fz tn3), some (.fz (.int 9)), some (.fz (.dict cb3_10)), some (.fz (tr [1, 2, 3])), some (.fz (.int 110880)), some (.fz (.int 2)), some (.fz (.int 2)), some (.fz (tr [1, 2, -3]))]
theorem cstep3_9 : eqR (dTurn (gVar 4) cbBody (.int 9) ⟨cs3_9 (some (.fz (.int 0))), none⟩) (cs3_10 (some (.fz (.int 0)))) = true := by decide +kernel
def cb3_11 : List (PyData × PyData) := tb [([-1, 2, 3], 9789726), ([-2, -1, 3], 8936335), ([-3, -2, -1], 9789726), ([1, -2, 3], 9789726), ([1, -3, -2], 8936335), ([1, 2, -3], 9789726), ([2, 1, 3], 8571706), ([-3, -1, 2], 8571706), ([-2, -3, -1], 6704753), ([-2, 1, -3], 8571706), ([3, -2, 1], 9410676), ([2, 3, 1], 8571706), ([-3, 2, 1], 9410676), ([-1, -3, 2], 8571706), ([-1, -2, -3], 9410676), ([3, 1, -2], 6704753), ([-1, 3, -2], 8571706), ([-3, 1, -2], 8571706), ([2, -3, 1], 6704753), ([2, -1, -3], 8571706), ([3, 1, 2], 8571706), ([-1, 3, 2], 6704753), ([3, 2, 1], 5851362), ([-2, 3, 1], 6704753), ([2, -3, -1], 8571706), ([3, 2, -1], 9410676), ([-2, 3, -1], 8571706), ([2, 1, -3], 6704753), ([3, -1, 2], 6704753), ([1, 3, 2], 8571706), ([-3, -1, -2], 6704753), ([3, -1, -2], 8207760), ([1, 3, -2], 6369990), ([3, -2, -1], 5531020), ([2, 3, -1], 6369990), ([1, -3, 2], 6369990), ([1, -2, -3], 5531020), ([-3, 2, -1], 5531020), ([-2, -3, 1], 8207760), ([2, -1, 3], 6369990), ([-2, -1, -3], 6369990), ([-3, 1, 2], 6369990), ([-1, -3, -2], 6369990), ([-1, 2, -3], 5531020), ([-3, -2, 1], 5531020), ([-1, -2, 3], 5531020), ([-2, 1, 3], 6369990), ([1, 2, 3], 5211360)]
def cs3_11 (e : Option Sl) : List (Option Sl) := [some (.fz (.int 3)), e, some (.fz (.dict cb3_11)), some (.fz tn3), some (.fz (.int 10)), some (.fz (.dict cb3_11)), some (.fz (tr [-1, 2, 3])), some (.fz (.int 816480)), some (.fz (.int 2)), some (.fz (.int 2)), some (.fz (tr [-1, 2, -3]))]
theorem cstep3_10 : eqR (dTurn (gVar 4) cbBody (.int 10) ⟨cs3_10 (some (.fz (.int 0))), none⟩) (cs3_11 (some (.fz (.int 0)))) = true := by decide +kernel
def cb3_12 : List (PyData × PyData) := tb [([1, 2, 3], 57031574), ([-2, 1, 3], 51145932), ([-3, -2, 1], 55544216), ([-1, -2, 3], 55544216), ([-1, -3, -2], 51145932), ([-1, 2, -3], 55544216), ([2, -1, 3], 51145932), ([-3, 1, 2], 51145932), ([-2, -3, 1], 41606709), ([-2, -1, -3], 51145932), ([3, -2, -1], 55544216), ([2, 3, -1], 51145932), ([-3, 2, -1], 55544216), ([1, -3, 2], 51145932), ([1, -2, -3], 55544216), ([3, -1, -2], 41606709), ([1, 3, -2], 51145932), ([-3, -1, -2], 49703544), ([2, -3, -1], 40252212), ([2, 1, -3], 49703544), ([3, -1, 2], 49703544), ([1, 3, 2], 40252212), ([3, 2, -1], 35853928), ([-2, 3, -1], 40252212), ([2, -3, 1], 49703544), ([3, 2, 1], 54058224), ([-2, 3, 1], 49703544), ([2, -1, -3], 40252212), ([3, 1, 2], 40252212), ([-1, 3, 2], 49703544), ([-3, 1, -2], 40252212), ([3, 1, -2], 49703544), ([-1, 3, -2], 40252212), ([3, -2, 1], 35853928), ([2, 3, 1], 40252212), ([-1, -3, 2], 40252212), ([-1, -2, -3], 35853928), ([-3, 2, 1], 35853928), ([-2, -3, -1], 49703544), ([2, 1, 3], 40252212), ([-2, 1, -3], 40252212), ([-3, -1, 2], 40252212), ([1, -3, -2], 38899080), ([1, 2, -3], 34544400), ([-3, -2, -1], 34544400), ([1, -2, 3], 34544400), ([-2, -1, 3], 38899080), ([-1, 2, 3], 34544400)]
def cs3_12 (e : Option Sl) : List (Option Sl) := [some (.fz (.int 3)), e, some (.fz (.dict cb3_12)), some (.fz tn3), some (.fz (.int 11)), some (.fz (.dict cb3_12)), some (.fz (tr [1, 2, 3])), some (.fz (.int 5211360)), some (.fz (.int 2)), some (.fz (.int 2)), some (.fz (tr [1, 2, -3]))]
theorem cstep3_11 : eqR (dTurn (gVar 4) cbBody (.int 11) ⟨cs3_11 (some (.fz (.int 0))), none⟩) (cs3_12 (some (.fz (.int 0)))) = true := by decide +kernel

theorem clp1_0 (l : List PyData) (e : Option Sl) (p : Option PotSt) : ∃ e', dForL (gVar 4) cbBody (.int 0 :: l) ⟨cs1_0 e, p⟩ = dForL (gVar 4) cbBody l ⟨cs1_1 e', p⟩ :=
  turn_at (i := 1) (some (.fz (.int 0))) (fun p => rd_turn rg_var rel_cbBody _) (fun _ => rfl) (fun _ => rfl) (Nat.le_of_ble_eq_true rfl) cstep1_0 l e p
theorem clp1_1 (l : List PyData) (e : Option Sl) (p : Option PotSt) : ∃ e', dForL (gVar 4) cbBody (.int 1 :: l) ⟨cs1_1 e, p⟩ = dForL (gVar 4) cbBody l ⟨cs1_2 e', p⟩ :=
  turn_at (i := 1) (some (.fz (.int 0))) (fun p => rd_turn rg_var rel_cbBody _) (fun _ => rfl) (fun _ => rfl) (Nat.le_of_ble_eq_true rfl) cstep1_1 l e p
theorem clp1_2 (l : List PyData) (e : Option Sl) (p : Option PotSt) : ∃ e', dForL (gVar 4) cbBody (.int 2 :: l) ⟨cs1_2 e, p⟩ = dForL (gVar 4) cbBody l ⟨cs1_3 e', p⟩ :=
  turn_at (i := 1) (some (.fz (.int 0))) (fun p => rd_turn rg_var rel_cbBody _) (fun _ => rfl) (fun _ => rfl) (Nat.le_of_ble_eq_true rfl) cstep1_2 l e p
theorem clp1_3 (l : List PyData) (e : Option Sl) (p : Option PotSt) : ∃ e', dForL (gVar 4) cbBody (.int 3 :: l) ⟨cs1_3 e, p⟩ = dForL (gVar 4) cbBody l ⟨cs1_4 e', p⟩ :=
  turn_at (i := 1) (some (.fz (.int 0))) (fun p => rd_turn rg_var rel_cbBody _) (fun _ => rfl) (fun _ => rfl) (Nat.le_of_ble_eq_true rfl) cstep1_3 l e p
theorem clp1_4 (l : List PyData) (e : Option Sl) (p : Option PotSt) : ∃ e', dForL (gVar 4) cbBody (.int 4 :: l) ⟨cs1_4 e, p⟩ = dForL (gVar 4) cbBody l ⟨cs1_5 e', p⟩ :=
  turn_at (i := 1) (some (.fz (.int 0))) (fun p => rd_turn rg_var rel_cbBody _) (fun _ => rfl) (fun _ => rfl) (Nat.le_of_ble_eq_true rfl) cstep1_4 l e p
theorem clp1_5 (l : List PyData) (e : Option Sl) (p : Option PotSt) : ∃ e', dForL (gVar 4) cbBody (.int 5 :: l) ⟨cs1_5 e, p⟩ = dForL (gVar 4) cbBody l ⟨cs1_6 e', p⟩ :=
  turn_at (i := 1) (some (.fz (.int 0))) (fun p => rd_turn rg_var rel_cbBody _) (fun _ => rfl) (fun _ => rfl) (Nat.le_of_ble_eq_true rfl) cstep1_5 l e p
theorem clp1_6 (l : List PyData) (e : Option Sl) (p : Option PotSt) : ∃ e', dForL (gVar 4) cbBody (.int 6 :: l) ⟨cs1_6 e, p⟩ = dForL (gVar 4) cbBody l ⟨cs1_7 e', p⟩ :=
  turn_at (i := 1) (some (.fz (.int 0))) (fun p => rd_turn rg_var rel_cbBody _) (fun _ => rfl) (fun _ => rfl) (Nat.le_of_ble_eq_true rfl) cstep1_6 l e p
theorem clp1_7 (l : List PyData) (e : Option Sl) (p : Option PotSt) : ∃ e', dForL (gVar 4) cbBody (.int 7 :: l) ⟨cs1_7 e, p⟩ = dForL (gVar 4) cbBody l ⟨cs1_8 e', p⟩ :=
  turn_at (i := 1) (some (.fz (.int 0))) (fun p => rd_turn rg_var rel_cbBody _) (fun _ => rfl) (fun _ => rfl) (Nat.le_of_ble_eq_true rfl) cstep1_7 l e p
theorem clp1_8 (l : List PyData) (e : Option Sl) (p : Option PotSt) : ∃ e', dForL (gVar 4) cbBody (.int 8 :: l) ⟨cs1_8 e, p⟩ = dForL (gVar 4) cbBody l ⟨cs1_9 e', p⟩ :=
  turn_at (i := 1) (some (.fz (.int 0))) (fun p => rd_turn rg_var rel_cbBody _) (fun _ => rfl) (fun _ => rfl) (Nat.le_of_ble_eq_true rfl) cstep1_8 l e p
theorem clp1_9 (l : List PyData) (e : Option Sl) (p : Option PotSt) : ∃ e', dForL (gVar 4) cbBody (.int 9 :: l) ⟨cs1_9 e, p⟩ = dForL (gVar 4) cbBody l ⟨cs1_10 e', p⟩ :=
  turn_at (i := 1) (some (.fz (.int 0))) (fun p => rd_turn rg_var rel_cbBody _) (fun _ => rfl) (fun _ => rfl) (Nat.le_of_ble_eq_true rfl) cstep1_9 l e p
theorem clp1_10 (l : List PyData) (e : Option Sl) (p : Option PotSt) : ∃ e', dForL (gVar 4) cbBody (.int 10 :: l) ⟨cs1_10 e, p⟩ = dForL (gVar 4) cbBody l ⟨cs1_11 e', p⟩ :=
  turn_at (i := 1) (some (.fz (.int 0))) (fun p => rd_turn rg_var rel_cbBody _) (fun _ => rfl) (fun _ => rfl) (Nat.le_of_ble_eq_true rfl) cstep1_10 l e p
theorem clp1_11 (l : List PyData) (e : Option Sl) (p : Option PotSt) : ∃ e', dForL (gVar 4) cbBody (.int 11 :: l) ⟨cs1_11 e, p⟩ = dForL (gVar 4) cbBody l ⟨cs1_12 e', p⟩ :=
  turn_at (i := 1) (some (.fz (.int 0))) (fun p => rd_turn rg_var rel_cbBody _) (fun _ => rfl) (fun _ => rfl) (Nat.le_of_ble_eq_true rfl) cstep1_11 l e p
theorem cpre1_0 : eqR (cbPre ⟨envOf 11 [.d (.int 1), .d (.int 0)], none⟩) (cs1_0 (some (.fz (.int 0)))) = true := by decide +kernel
theorem counts1_0 (p : Option PotSt) : D_counts_behind [.d (.int 1), .d (.int 0)] p = some (.fr (.dict cb1_0), p) := by
  have hl : dForL (gVar 4) cbBody (rangeD 0 1 0) ⟨cs1_0 (some (.fz (.int 0))), p⟩ = some (.nx, ⟨cs1_0 (some (.fz (.int 0))), p⟩) := by
    rw [show rangeD 0 1 0 = [] from rfl]; rfl
  exact counts_of cpre1_0 (cbEnd_ok0 (m := 0) rfl rfl hl rfl) rfl ⟨rfl, by simp⟩
theorem cpre1_1 : eqR (cbPre ⟨envOf 11 [.d (.int 1), .d (.int 1)], none⟩) (cs1_0 (some (.fz (.int 1)))) = true := by decide +kernel
theorem counts1_1 (p : Option PotSt) : D_counts_behind [.d (.int 1), .d (.int 1)] p = some (.fz (.dict cb1_1), p) := by
  obtain ⟨e0, l0⟩ := clp1_0 [] (some (.fz (.int 1))) p
  have hl : dForL (gVar 4) cbBody (rangeD 0 1 1) ⟨cs1_0 (some (.fz (.int 1))), p⟩ = some (.nx, ⟨cs1_1 e0, p⟩) := by
    rw [show rangeD 0 1 1 = [.int 0] from rfl, l0]; rfl
  exact counts_of cpre1_1 (cbEnd_ok (m := 1) rfl rfl hl rfl) rfl ⟨rfl, by simp⟩
theorem cpre1_2 : eqR (cbPre ⟨envOf 11 [.d (.int 1), .d (.int 2)], none⟩) (cs1_0 (some (.fz (.int 2)))) = true := by decide +kernel
theorem counts1_2 (p : Option PotSt) : D_counts_behind [.d (.int 1), .d (.int 2)] p = some (.fz (.dict cb1_2), p) := by
  obtain ⟨e0, l0⟩ := clp1_0 [.int 1] (some (.fz (.int 2))) p
  obtain ⟨e1, l1⟩ := clp1_1 [] e0 p
  have hl : dForL (gVar 4) cbBody (rangeD 0 1 2) ⟨cs1_0 (some (.fz (.int 2))), p⟩ = some (.nx, ⟨cs1_2 e1, p⟩) := by
    rw [show rangeD 0 1 2 = [.int 0, .int 1] from rfl, l0, l1]; rfl
  exact counts_of cpre1_2 (cbEnd_ok (m := 2) rfl rfl hl rfl) rfl ⟨rfl, by simp⟩
theorem cpre1_3 : eqR (cbPre ⟨envOf 11 [.d (.int 1), .d (.int 3)], none⟩) (cs1_0 (some (.fz (.int 3)))) = true := by decide +kernel
theorem counts1_3 (p : Option PotSt) : D_counts_behind [.d (.int 1), .d (.int 3)] p = some (.fz (.dict cb1_3), p) := by
  obtain ⟨e0, l0⟩ := clp1_0 [.int 1, .int 2] (some (.fz (.int 3))) p
  obtain ⟨e1, l1⟩ := clp1_1 [.int 2] e0 p
  obtain ⟨e2, l2⟩ := clp1_2 [] e1 p
  have hl : dForL (gVar 4) cbBody (rangeD 0 1 3) ⟨cs1_0 (some (.fz (.int 3))), p⟩ = some (.nx, ⟨cs1_3 e2, p⟩) := by
    rw [show rangeD 0 1 3 = [.int 0, .int 1, .int 2] from rfl, l0, l1, l2]; rfl
  exact counts_of cpre1_3 (cbEnd_ok (m := 3) rfl rfl hl rfl) rfl ⟨rfl, by simp⟩
theorem cpre1_4 : eqR (cbPre ⟨envOf 11 [.d (.int 1), .d (.int 4)], none⟩) (cs1_0 (some (.fz (.int 4)))) = true := by decide +kernel
theorem counts1_4 (p : Option PotSt) : D_counts_behind [.d (.int 1), .d (.int 4)] p = some (.fz (.dict cb1_4), p) := by
  obtain ⟨e0, l0⟩ := clp1_0 [.int 1, .int 2, .int 3] (some (.fz (.int 4))) p
  obtain ⟨e1, l1⟩ := clp1_1 [.int 2, .int 3] e0 p
  obtain ⟨e2, l2⟩ := clp1_2 [.int 3] e1 p
  obtain ⟨e3, l3⟩ := clp1_3 [] e2 p
  have hl : dForL (gVar 4) cbBody (rangeD 0 1 4) ⟨cs1_0 (some (.fz (.int 4))), p⟩ = some (.nx, ⟨cs1_4 e3, p⟩) := by
    rw [show rangeD 0 1 4 = [.int 0, .int 1, .int 2, .int 3] from rfl, l0, l1, l2, l3]; rfl
  exact counts_of cpre1_4 (cbEnd_ok (m := 4) rfl rfl hl rfl) rfl ⟨rfl, by simp⟩
theorem cpre1_5 : eqR (cbPre ⟨envOf 11 [.d (.int 1), .d (.int 5)], none⟩) (cs1_0 (some (.fz (.int 5)))) = true := by decide +kernel
theorem counts1_5 (p : Option PotSt) : D_counts_behind [.d (.int 1), .d (.int 5)] p = some (.fz (.dict cb1_5), p) := by
  obtain ⟨e0, l0⟩ := clp1_0 [.int 1, .int 2, .int 3, .int 4] (some (.fz (.int 5))) p
  obtain ⟨e1, l1⟩ := clp1_1 [.int 2, .int 3, .int 4] e0 p
  obtain ⟨e2, l2⟩ := clp1_2 [.int 3, .int 4] e1 p
  obtain ⟨e3, l3⟩ := clp1_3 [.int 4] e2 p
  obtain ⟨e4, l4⟩ := clp1_4 [] e3 p
  have hl : dForL (gVar 4) cbBody (rangeD 0 1 5) ⟨cs1_0 (some (.fz (.int 5))), p⟩ = some (.nx, ⟨cs1_5 e4, p⟩) := by
    rw [show rangeD 0 1 5 = [.int 0, .int 1, .int 2, .int 3, .int 4] from rfl, l0, l1, l2, l3, l4]; rfl
  exact counts_of cpre1_5 (cbEnd_ok (m := 5) rfl rfl hl rfl) rfl ⟨rfl, by simp⟩
theorem cpre1_6 : eqR (cbPre ⟨envOf 11 [.d (.int 1), .d (.int 6)], none⟩) (cs1_0 (some (.fz (.int 6)))) = true := by decide +kernel
theorem counts1_6 (p : Option PotSt) : D_counts_behind [.d (.int 1), .d (.int 6)] p = some (.fz (.dict cb1_6), p) := by
  obtain ⟨e0, l0⟩ := clp1_0 [.int 1, .int 2, .int 3, .int 4, .int 5] (some (.fz (.int 6))) p
  obtain ⟨e1, l1⟩ := clp1_1 [.int 2, .int 3, .int 4, .int 5] e0 p
  obtain ⟨e2, l2⟩ := clp1_2 [.int 3, .int 4, .int 5] e1 p
  obtain ⟨e3, l3⟩ := clp1_3 [.int 4, .int 5] e2 p
  obtain ⟨e4, l4⟩ := clp1_4 [.int 5] e3 p
  obtain ⟨e5, l5⟩ := clp1_5 [] e4 p
  have hl : dForL (gVar 4) cbBody (rangeD 0 1 6) ⟨cs1_0 (some (.fz (.int 6))), p⟩ = some (.nx, ⟨cs1_6 e5, p⟩) := by
    rw [show rangeD 0 1 6 = [.int 0, .int 1, .int 2, .int 3, .int 4, .int 5] from rfl, l0, l1, l2, l3, l4, l5]; rfl
  exact counts_of cpre1_6 (cbEnd_ok (m := 6) rfl rfl hl rfl) rfl ⟨rfl, by simp⟩
theorem cpre1_7 : eqR (cbPre ⟨envOf 11 [.d (.int 1), .d (.int 7)], none⟩) (cs1_0 (some (.fz (.int 7)))) = true := by decide +kernel
theorem counts1_7 (p : Option PotSt) : D_counts_behind [.d (.int 1), .d (.int 7)] p = some (.fz (.dict cb1_7), p) := by
  obtain ⟨e0, l0⟩ := clp1_0 [.int 1, .int 2, .int 3, .int 4, .int 5, .int 6] (some (.fz (.int 7))) p
  obtain ⟨e1, l1⟩ := clp1_1 [.int 2, .int 3, .int 4, .int 5, .int 6] e0 p
  obtain ⟨e2, l2⟩ := clp1_2 [.int 3, .int 4, .int 5, .int 6] e1 p
  obtain ⟨e3, l3⟩ := clp1_3 [.int 4, .int 5, .int 6] e2 p
  obtain ⟨e4, l4⟩ := clp1_4 [.int 5, .int 6] e3 p
  obtain ⟨e5, l5⟩ := clp1_5 [.int 6] e4 p
  obtain ⟨e6, l6⟩ := clp1_6 [] e5 p
  have hl : dForL (gVar 4) cbBody (rangeD 0 1 7) ⟨cs1_0 (some (.fz (.int 7))), p⟩ = some (.nx, ⟨cs1_7 e6, p⟩) := by
    rw [show rangeD 0 1 7 = [.int 0, .int 1, .int 2, .int 3, .int 4, .int 5, .int 6] from rfl, l0, l1, l2, l3, l4, l5, l6]; rfl
  exact counts_of cpre1_7 (cbEnd_ok (m := 7) rfl rfl hl rfl) rfl ⟨rfl, by simp⟩
theorem cpre1_8 : eqR (cbPre ⟨envOf 11 [.d (.int 1), .d (.int 8)], none⟩) (cs1_0 (some (.fz (.int 8)))) = true := by decide +kernel
theorem counts1_8 (p : Option PotSt) : D_counts_behind [.d (.int 1), .d (.int 8)] p = some (.fz (.dict cb1_8), p) := by
  obtain ⟨e0, l0⟩ := clp1_0 [.int 1, .int 2, .int 3, .int 4, .int 5, .int 6, .int 7] (some (.fz (.int 8))) p
  obtain ⟨e1, l1⟩ := clp1_1 [.int 2, .int 3, .int 4, .int 5, .int 6, .int 7] e0 p
  obtain ⟨e2, l2⟩ := clp1_2 [.int 3, .int 4, .int 5, .int 6, .int 7] e1 p
  obtain ⟨e3, l3⟩ := clp1_3 [.int 4, .int 5, .int 6, .int 7] e2 p
  obtain ⟨e4, l4⟩ := clp1_4 [.int 5, .int 6, .int 7] e3 p
  obtain ⟨e5, l5⟩ := clp1_5 [.int 6, .int 7] e4 p
  obtain ⟨e6, l6⟩ := clp1_6 [.int 7] e5 p
  obtain ⟨e7, l7⟩ := clp1_7 [] e6 p
  have hl : dForL (gVar 4) cbBody (rangeD 0 1 8) ⟨cs1_0 (some (.fz (.int 8))), p⟩ = some (.nx, ⟨cs1_8 e7, p⟩) := by
    rw [show rangeD 0 1 8 = [.int 0, .int 1, .int 2, .int 3, .int 4, .int 5, .int 6, .int 7] from rfl, l0, l1, l2, l3, l4, l5, l6, l7]; rfl
  exact counts_of cpre1_8 (cbEnd_ok (m := 8) rfl rfl hl rfl) rfl ⟨rfl, by simp⟩
theorem cpre1_9 : eqR (cbPre ⟨envOf 11 [.d (.int 1), .d (.int 9)], none⟩) (cs1_0 (some (.fz (.int 9)))) = true := by decide +kernel
theorem counts1_9 (p : Option PotSt) : D_counts_behind [.d (.int 1), .d (.int 9)] p = some (.fz (.dict cb1_9), p) := by
  obtain ⟨e0, l0⟩ := clp1_0 [.int 1, .int 2, .int 3, .int 4, .int 5, .int 6, .int 7, .int 8] (some (.fz (.int 9))) p
  obtain ⟨e1, l1⟩ := clp1_1 [.int 2, .int 3, .int 4, .int 5, .int 6, .int 7, .int 8] e0 p
  obtain ⟨e2, l2⟩ := clp1_2 [.int 3, .int 4, .int 5, .int 6, .int 7, .int 8] e1 p
  obtain ⟨e3, l3⟩ := clp1_3 [.int 4, .int 5, .int 6, .int 7, .int 8] e2 p
  obtain ⟨e4, l4⟩ := clp1_4 [.int 5, .int 6, .int 7, .int 8] e3 p
  obtain ⟨e5, l5⟩ := clp1_5 [.int 6, .int 7, .int 8] e4 p
  obtain ⟨e6, l6⟩ := clp1_6 [.int 7, .int 8] e5 p
  obtain ⟨e7, l7⟩ := clp1_7 [.int 8] e6 p
  obtain ⟨e8, l8⟩ := clp1_8 [] e7 p
  have hl : dForL (gVar 4) cbBody (rangeD 0 1 9) ⟨cs1_0 (some (.fz (.int 9))), p⟩ = some (.nx, ⟨cs1_9 e8, p⟩) := by
    rw [show rangeD 0 1 9 = [.int 0, .int 1, .int 2, .int 3, .int 4, .int 5, .int 6, .int 7, .int 8] from rfl, l0, l1, l2, l3, l4, l5, l6, l7, l8]; rfl
  exact counts_of cpre1_9 (cbEnd_ok (m := 9) rfl rfl hl rfl) rfl ⟨rfl, by simp⟩
theorem cpre1_10 : eqR (cbPre ⟨envOf 11 [.d (.int 1), .d (.int 10)], none⟩) (cs1_0 (some (.fz (.int 10)))) = true := by decide +kernel
theorem counts1_10 (p : Option PotSt) : D_counts_behind [.d (.int 1), .d (.int 10)] p = some (.fz (.dict cb1_10), p) := by
  obtain ⟨e0, l0⟩ := clp1_0 [.int 1, .int 2, .int 3, .int 4, .int 5, .int 6, .int 7, .int 8, .int 9] (some (.fz (.int 10))) p
  obtain ⟨e1, l1⟩ := clp1_1 [.int 2, .int 3, .int 4, .int 5, .int 6, .int 7, .int 8, .int 9] e0 p
  obtain ⟨e2, l2⟩ := clp1_2 [.int 3, .int 4, .int 5, .int 6, .int 7, .int 8, .int 9] e1 p
  obtain ⟨e3, l3⟩ := clp1_3 [.int 4, .int 5, .int 6, .int 7, .int 8, .int 9] e2 p
  obtain ⟨e4, l4⟩ := clp1_4 [.int 5, .int 6, .int 7, .int 8, .int 9] e3 p
  obtain ⟨e5, l5⟩ := clp1_5 [.int 6, .int 7, .int 8, .int 9] e4 p
  obtain ⟨e6, l6⟩ := clp1_6 [.int 7, .int 8, .int 9] e5 p
  obtain ⟨e7, l7⟩ := clp1_7 [.int 8, .int 9] e6 p
  obtain ⟨e8, l8⟩ := clp1_8 [.int 9] e7 p
  obtain ⟨e9, l9⟩ := clp1_9 [] e8 p
  have hl : dForL (gVar 4) cbBody (rangeD 0 1 10) ⟨cs1_0 (some (.fz (.int 10))), p⟩ = some (.nx, ⟨cs1_10 e9, p⟩) := by
    rw [show rangeD 0 1 10 = [.int 0, .int 1, .int 2, .int 3, .int 4, .int 5, .int 6, .int 7, .int 8, .int 9] from rfl, l0, l1, l2, l3, l4, l5, l6, l7, l8, l9]; rfl
  exact counts_of cpre1_10 (cbEnd_ok (m := 10) rfl rfl hl rfl) rfl ⟨rfl, by simp⟩
theorem cpre1_11 : eqR (cbPre ⟨envOf 11 [.d (.int 1), .d (.int 11)], none⟩) (cs1_0 (some (.fz (.int 11)))) = true := by decide +kernel
theorem counts1_11 (p : Option PotSt) : D_counts_behind [.d (.int 1), .d (.int 11)] p = some (.fz (.dict cb1_11), p) := by
  obtain ⟨e0, l0⟩ := clp1_0 [.int 1, .int 2, .int 3, .int 4, .int 5, .int 6, .int 7, .int 8, .int 9, .int 10] (some (.fz (.int 11))) p
  obtain ⟨e1, l1⟩ := clp1_1 [.int 2, .int 3, .int 4, .int 5, .int 6, .int 7, .int 8, .int 9, .int 10] e0 p
  obtain ⟨e2, l2⟩ := clp1_2 [.int 3, .int 4, .int 5, .int 6, .int 7, .int 8, .int 9, .int 10] e1 p
  obtain ⟨e3, l3⟩ := clp1_3 [.int 4, .int 5, .int 6, .int 7, .int 8, .int 9, .int 10] e2 p
  obtain ⟨e4, l4⟩ := clp1_4 [.int 5, .int 6, .int 7, .int 8, .int 9, .int 10] e3 p
  obtain ⟨e5, l5⟩ := clp1_5 [.int 6, .int 7, .int 8, .int 9, .int 10] e4 p
  obtain ⟨e6, l6⟩ := clp1_6 [.int 7, .int 8, .int 9, .int 10] e5 p
  obtain ⟨e7, l7⟩ := clp1_7 [.int 8, .int 9, .int 10] e6 p
  obtain ⟨e8, l8⟩ := clp1_8 [.int 9, .int 10] e7 p
  obtain ⟨e9, l9⟩ := clp1_9 [.int 10] e8 p
  obtain ⟨e10, l10⟩ := clp1_10 [] e9 p
  have hl : dForL (gVar 4) cbBody (rangeD 0 1 11) ⟨cs1_0 (some (.fz (.int 11))), p⟩ = some (.nx, ⟨cs1_11 e10, p⟩) := by
    rw [show rangeD 0 1 11 = [.int 0, .int 1, .int 2, .int 3, .int 4, .int 5, .int 6, .int 7, .int 8, .int 9, .int 10] from rfl, l0, l1, l2, l3, l4, l5, l6, l7, l8, l9, l10]; rfl
  exact counts_of cpre1_11 (cbEnd_ok (m := 11) rfl rfl hl rfl) rfl ⟨rfl, by simp⟩
theorem cpre1_12 : eqR (cbPre ⟨envOf 11 [.d (.int 1), .d (.int 12)], none⟩) (cs1_0 (some (.fz (.int 12)))) = true := by decide +kernel
theorem counts1_12 (p : Option PotSt) : D_counts_behind [.d (.int 1), .d (.int 12)] p = some (.fz (.dict cb1_12), p) := by
  obtain ⟨e0, l0⟩ := clp1_0 [.int 1, .int 2, .int 3, .int 4, .int 5, .int 6, .int 7, .int 8, .int 9, .int 10, .int 11] (some (.fz (.int 12))) p
  obtain ⟨e1, l1⟩ := clp1_1 [.int 2, .int 3, .int 4, .int 5, .int 6, .int 7, .int 8, .int 9, .int 10, .int 11] e0 p
  obtain ⟨e2, l2⟩ := clp1_2 [.int 3, .int 4, .int 5, .int 6, .int 7, .int 8, .int 9, .int 10, .int 11] e1 p
  obtain ⟨e3, l3⟩ := clp1_3 [.int 4, .int 5, .int 6, .int 7, .int 8, .int 9, .int 10, .int 11] e2 p
  obtain ⟨e4, l4⟩ := clp1_4 [.int 5, .int 6, .int 7, .int 8, .int 9, .int 10, .int 11] e3 p
  obtain ⟨e5, l5⟩ := clp1_5 [.int 6, .int 7, .int 8, .int 9, .int 10, .int 11] e4 p
  obtain ⟨e6, l6⟩ := clp1_6 [.int 7, .int 8, .int 9, .int 10, .int 11] e5 p
  obtain ⟨e7, l7⟩ := clp1_7 [.int 8, .int 9, .int 10, .int 11] e6 p
  obtain ⟨e8, l8⟩ := clp1_8 [.int 9, .int 10, .int 11] e7 p
  obtain ⟨e9, l9⟩ := clp1_9 [.int 10, .int 11] e8 p
  obtain ⟨e10, l10⟩ := clp1_10 [.int 11] e9 p
  obtain ⟨e11, l11⟩ := clp1_11 [] e10 p
  have hl : dForL (gVar 4) cbBody (rangeD 0 1 12) ⟨cs1_0 (some (.fz (.int 12))), p⟩ = some (.nx, ⟨cs1_12 e11, p⟩) := by
    rw [show rangeD 0 1 12 = [.int 0, .int 1, .int 2, .int 3, .int 4, .int 5, .int 6, .int 7, .int 8, .int 9, .int 10, .int 11] from rfl, l0, l1, l2, l3, l4, l5, l6, l7, l8, l9, l10, l11]; rfl
  exact counts_of cpre1_12 (cbEnd_ok (m := 12) rfl rfl hl rfl) rfl ⟨rfl, by simp⟩
theorem clp2_0 (l : List PyData) (e : Option Sl) (p : Option PotSt) : ∃ e', dForL (gVar 4) cbBody (.int 0 :: l) ⟨cs2_0 e, p⟩ = dForL (gVar 4) cbBody l ⟨cs2_1 e', p⟩ :=
  turn_at (i := 1) (some (.fz (.int 0))) (fun p => rd_turn rg_var rel_cbBody _) (fun _ => rfl) (fun _ => rfl) (Nat.le_of_ble_eq_true rfl) cstep2_0 l e p
theorem clp2_1 (l : List PyData) (e : Option Sl) (p : Option PotSt) : ∃ e', dForL (gVar 4) cbBody (.int 1 :: l) ⟨cs2_1 e, p⟩ = dForL (gVar 4) cbBody l ⟨cs2_2 e', p⟩ :=
  turn_at (i := 1) (some (.fz (.int 0))) (fun p => rd_turn rg_var rel_cbBody _) (fun _ => rfl) (fun _ => rfl) (Nat.le_of_ble_eq_true rfl) cstep2_1 l e p
theorem clp2_2 (l : List PyData) (e : Option Sl) (p : Option PotSt) : ∃ e', dForL (gVar 4) cbBody (.int 2 :: l) ⟨cs2_2 e, p⟩ = dForL (gVar 4) cbBody l ⟨cs2_3 e', p⟩ :=
  turn_at (i := 1) (some (.fz (.int 0))) (fun p => rd_turn rg_var rel_cbBody _) (fun _ => rfl) (fun _ => rfl) (Nat.le_of_ble_eq_true rfl) cstep2_2 l e p
theorem clp2_3 (l : List PyData) (e : Option Sl) (p : Option PotSt) : ∃ e', dForL (gVar 4) cbBody (.int 3 :: l) ⟨cs2_3 e, p⟩ = dForL (gVar 4) cbBody l ⟨cs2_4 e', p⟩ :=
  turn_at (i := 1) (some (.fz (.int 0))) (fun p => rd_turn rg_var rel_cbBody _) (fun _ => rfl) (fun _ => rfl) (Nat.le_of_ble_eq_true rfl) cstep2_3 l e p
theorem clp2_4 (l : List PyData) (e : Option Sl) (p : Option PotSt) : ∃ e', dForL (gVar 4) cbBody (.int 4 :: l) ⟨cs2_4 e, p⟩ = dForL (gVar 4) cbBody l ⟨cs2_5 e', p⟩ :=
  turn_at (i := 1) (some (.fz (.int 0))) (fun p => rd_turn rg_var rel_cbBody _) (fun _ => rfl) (fun _ => rfl) (Nat.le_of_ble_eq_true rfl) cstep2_4 l e p
theorem clp2_5 (l : List PyData) (e : Option Sl) (p : Option PotSt) : ∃ e', dForL (gVar 4) cbBody (.int 5 :: l) ⟨cs2_5 e, p⟩ = dForL (gVar 4) cbBody l ⟨cs2_6 e', p⟩ :=
  turn_at (i := 1) (some (.fz (.int 0))) (fun p => rd_turn rg_var rel_cbBody _) (fun _ => rfl) (fun _ => rfl) (Nat.le_of_ble_eq_true rfl) cstep2_5 l e p
theorem clp2_6 (l : List PyData) (e : Option Sl) (p : Option PotSt) : ∃ e', dForL (gVar 4) cbBody (.int 6 :: l) ⟨cs2_6 e, p⟩ = dForL (gVar 4) cbBody l ⟨cs2_7 e', p⟩ :=
  turn_at (i := 1) (some (.fz (.int 0))) (fun p => rd_turn rg_var rel_cbBody _) (fun _ => rfl) (fun _ => rfl) (Nat.le_of_ble_eq_true rfl) cstep2_6 l e p
theorem clp2_7 (l : List PyData) (e : Option Sl) (p : Option PotSt) : ∃ e', dForL (gVar 4) cbBody (.int 7 :: l) ⟨cs2_7 e, p⟩ = dForL (gVar 4) cbBody l ⟨cs2_8 e', p⟩ :=
  turn_at (i := 1) (some (.fz (.int 0))) (fun p => rd_turn rg_var rel_cbBody _) (fun _ => rfl) (fun _ => rfl) (Nat.le_of_ble_eq_true rfl) cstep2_7 l e p
theorem clp2_8 (l : List PyData) (e : Option Sl) (p : Option PotSt) : ∃ e', dForL (gVar 4) cbBody (.int 8 :: l) ⟨cs2_8 e, p⟩ = dForL (gVar 4) cbBody l ⟨cs2_9 e', p⟩ :=
  turn_at (i := 1) (some (.fz (.int 0))) (fun p => rd_turn rg_var rel_cbBody _) (fun _ => rfl) (fun _ => rfl) (Nat.le_of_ble_eq_true rfl) cstep2_8 l e p
theorem clp2_9 (l : List PyData) (e : Option Sl) (p : Option PotSt) : ∃ e', dForL (gVar 4) cbBody (.int 9 :: l) ⟨cs2_9 e, p⟩ = dForL (gVar 4) cbBody l ⟨cs2_10 e', p⟩ :=
  turn_at (i := 1) (some (.fz (.int 0))) (fun p => rd_turn rg_var rel_cbBody _) (fun _ => rfl) (fun _ => rfl) (Nat.le_of_ble_eq_true rfl) cstep2_9 l e p
theorem clp2_10 (l : List PyData) (e : Option Sl) (p : Option PotSt) : ∃ e', dForL (gVar 4) cbBody (.int 10 :: l) ⟨cs2_10 e, p⟩ = dForL (gVar 4) cbBody l ⟨cs2_11 e', p⟩ :=
  turn_at (i := 1) (some (.fz (.int 0))) (fun p => rd_turn rg_var rel_cbBody _) (fun _ => rfl) (fun _ => rfl) (Nat.le_of_ble_eq_true rfl) cstep2_10 l e p
theorem clp2_11 (l : List PyData) (e : Option Sl) (p : Option PotSt) : ∃ e', dForL (gVar 4) cbBody (.int 11 :: l) ⟨cs2_11 e, p⟩ = dForL (gVar 4) cbBody l ⟨cs2_12 e', p⟩ :=
  turn_at (i := 1) (some (.fz (.int 0))) (fun p => rd_turn rg_var rel_cbBody _) (fun _ => rfl) (fun _ => rfl) (Nat.le_of_ble_eq_true rfl) cstep2_11 l e p
theorem cpre2_0 : eqR (cbPre ⟨envOf 11 [.d (.int 2), .d (.int 0)], none⟩) (cs2_0 (some (.fz (.int 0)))) = true := by decide +kernel
theorem counts2_0 (p : Option PotSt) : D_counts_behind [.d (.int 2), .d (.int 0)] p = some (.fr (.dict cb2_0), p) := by
  have hl : dForL (gVar 4) cbBody (rangeD 0 1 0) ⟨cs2_0 (some (.fz (.int 0))), p⟩ = some (.nx, ⟨cs2_0 (some (.fz (.int 0))), p⟩) := by
    rw [show rangeD 0 1 0 = [] from rfl]; rfl
  exact counts_of cpre2_0 (cbEnd_ok0 (m := 0) rfl rfl hl rfl) rfl ⟨rfl, by simp⟩
theorem cpre2_1 : eqR (cbPre ⟨envOf 11 [.d (.int 2), .d (.int 1)], none⟩) (cs2_0 (some (.fz (.int 1)))) = true := by decide +kernel
theorem counts2_1 (p : Option PotSt) : D_counts_behind [.d (.int 2), .d (.int 1)] p = some (.fz (.dict cb2_1), p) := by
  obtain ⟨e0, l0⟩ := clp2_0 [] (some (.fz (.int 1))) p
  have hl : dForL (gVar 4) cbBody (rangeD 0 1 1) ⟨cs2_0 (some (.fz (.int 1))), p⟩ = some (.nx, ⟨cs2_1 e0, p⟩) := by
    rw [show rangeD 0 1 1 = [.int 0] from rfl, l0]; rfl
  exact counts_of cpre2_1 (cbEnd_ok (m := 1) rfl rfl hl rfl) rfl ⟨rfl, by simp⟩
theorem cpre2_2 : eqR (cbPre ⟨envOf 11 [.d (.int 2), .d (.int 2)], none⟩) (cs2_0 (some (.fz (.int 2)))) = true := by decide +kernel
theorem counts2_2 (p : Option PotSt) : D_counts_behind [.d (.int 2), .d (.int 2)] p = some (.fz (.dict cb2_2), p) := by
  obtain ⟨e0, l0⟩ := clp2_0 [.int 1] (some (.fz (.int 2))) p
  obtain ⟨e1, l1⟩ := clp2_1 [] e0 p
  have hl : dForL (gVar 4) cbBody (rangeD 0 1 2) ⟨cs2_0 (some (.fz (.int 2))), p⟩ = some (.nx, ⟨cs2_2 e1, p⟩) := by
    rw [show rangeD 0 1 2 = [.int 0, .int 1] from rfl, l0, l1]; rfl
  exact counts_of cpre2_2 (cbEnd_ok (m := 2) rfl rfl hl rfl) rfl ⟨rfl, by simp⟩
theorem cpre2_3 : eqR (cbPre ⟨envOf 11 [.d (.int 2), .d (.int 3)], none⟩) (cs2_0 (some (.fz (.int 3)))) = true := by decide +kernel
theorem counts2_3 (p : Option PotSt) : D_counts_behind [.d (.int 2), .d (.int 3)] p = some (.fz (.dict cb2_3), p) := by
  obtain ⟨e0, l0⟩ := clp2_0 [.int 1, .int 2] (some (.fz (.int 3))) p
  obtain ⟨e1, l1⟩ := clp2_1 [.int 2] e0 p
  obtain ⟨e2, l2⟩ := clp2_2 [] e1 p
  have hl : dForL (gVar 4) cbBody (rangeD 0 1 3) ⟨cs2_0 (some (.fz (.int 3))), p⟩ = some (.nx, ⟨cs2_3 e2, p⟩) := by
    rw [show rangeD 0 1 3 = [.int 0, .int 1, .int 2] from rfl, l0, l1, l2]; rfl
  exact counts_of cpre2_3 (cbEnd_ok (m := 3) rfl rfl hl rfl) rfl ⟨rfl, by simp⟩
theorem cpre2_4 : eqR (cbPre ⟨envOf 11 [.d (.int 2), .d (.int 4)], none⟩) (cs2_0 (some (.fz (.int 4)))) = true := by decide +kernel
theorem counts2_4 (p : Option PotSt) : D_counts_behind [.d (.int 2), .d (.int 4)] p = some (.fz (.dict cb2_4), p) := by
  obtain ⟨e0, l0⟩ := clp2_0 [.int 1, .int 2, .int 3] (some (.fz (.int 4))) p
  obtain ⟨e1, l1⟩ := clp2_1 [.int 2, .int 3] e0 p
  obtain ⟨e2, l2⟩ := clp2_2 [.int 3] e1 p
  obtain ⟨e3, l3⟩ := clp2_3 [] e2 p
  have hl : dForL (gVar 4) cbBody (rangeD 0 1 4) ⟨cs2_0 (some (.fz (.int 4))), p⟩ = some (.nx, ⟨cs2_4 e3, p⟩) := by
    rw [show rangeD 0 1 4 = [.int 0, .int 1, .int 2, .int 3] from rfl, l0, l1, l2, l3]; rfl
  exact counts_of cpre2_4 (cbEnd_ok (m := 4) rfl rfl hl rfl) rfl ⟨rfl, by simp⟩
theorem cpre2_5 : eqR (cbPre ⟨envOf 11 [.d (.int 2), .d (.int 5)], none⟩) (cs2_0 (some (.fz (.int 5)))) = true := by decide +kernel
theorem counts2_5 (p : Option PotSt) : D_counts_behind [.d (.int 2), .d (.int 5)] p = some (.fz (.dict cb2_5), p) := by
  obtain ⟨e0, l0⟩ := clp2_0 [.int 1, .int 2, .int 3, .int 4] (some (.fz (.int 5))) p
  obtain ⟨e1, l1⟩ := clp2_1 [.int 2, .int 3, .int 4] e0 p
  obtain ⟨e2, l2⟩ := clp2_2 [.int 3, .int 4] e1 p
  obtain ⟨e3, l3⟩ := clp2_3 [.int 4] e2 p
  obtain ⟨e4, l4⟩ := clp2_4 [] e3 p
  have hl : dForL (gVar 4) cbBody (rangeD 0 1 5) ⟨cs2_0 (some (.fz (.int 5))), p⟩ = some (.nx, ⟨cs2_5 e4, p⟩) := by
    rw [show rangeD 0 1 5 = [.int 0, .int 1, .int 2, .int 3, .int 4] from rfl, l0, l1, l2, l3, l4]; rfl
  exact counts_of cpre2_5 (cbEnd_ok (m := 5) rfl rfl hl rfl) rfl ⟨rfl, by simp⟩
theorem cpre2_6 : eqR (cbPre ⟨envOf 11 [.d (.int 2), .d (.int 6)], none⟩) (cs2_0 (some (.fz (.int 6)))) = true := by decide +kernel
theorem counts2_6 (p : Option PotSt) : D_counts_behind [.d (.int 2), .d (.int 6)] p = some (.fz (.dict cb2_6), p) := by
  obtain ⟨e0, l0⟩ := clp2_0 [.int 1, .int 2, .int 3, .int 4, .int 5] (some (.fz (.int 6))) p
  obtain ⟨e1, l1⟩ := clp2_1 [.int 2, .int 3, .int 4, .int 5] e0 p
  obtain ⟨e2, l2⟩ := clp2_2 [.int 3, .int 4, .int 5] e1 p
  obtain ⟨e3, l3⟩ := clp2_3 [.int 4, .int 5] e2 p
  obtain ⟨e4, l4⟩ := clp2_4 [.int 5] e3 p
  obtain ⟨e5, l5⟩ := clp2_5 [] e4 p
  have hl : dForL (gVar 4) cbBody (rangeD 0 1 6) ⟨cs2_0 (some (.fz (.int 6))), p⟩ = some (.nx, ⟨cs2_6 e5, p⟩) := by
    rw [show rangeD 0 1 6 = [.int 0, .int 1, .int 2, .int 3, .int 4, .int 5] from rfl, l0, l1, l2, l3, l4, l5]; rfl
  exact counts_of cpre2_6 (cbEnd_ok (m := 6) rfl rfl hl rfl) rfl ⟨rfl, by simp⟩
theorem cpre2_7 : eqR (cbPre ⟨envOf 11 [.d (.int 2), .d (.int 7)], none⟩) (cs2_0 (some (.fz (.int 7)))) = true := by decide +kernel
theorem counts2_7 (p : Option PotSt) : D_counts_behind [.d (.int 2), .d (.int 7)] p = some (.fz (.dict cb2_7), p) := by
  obtain ⟨e0, l0⟩ := clp2_0 [.int 1, .int 2, .int 3, .int 4, .int 5, .int 6] (some (.fz (.int 7))) p
  obtain ⟨e1, l1⟩ := clp2_1 [.int 2, .int 3, .int 4, .int 5, .int 6] e0 p
  obtain ⟨e2, l2⟩ := clp2_2 [.int 3, .int 4, .int 5, .int 6] e1 p
  obtain ⟨e3, l3⟩ := clp2_3 [.int 4, .int 5, .int 6] e2 p
  obtain ⟨e4, l4⟩ := clp2_4 [.int 5, .int 6] e3 p
  obtain ⟨e5, l5⟩ := clp2_5 [.int 6] e4 p
  obtain ⟨e6, l6⟩ := clp2_6 [] e5 p
  have hl : dForL (gVar 4) cbBody (rangeD 0 1 7) ⟨cs2_0 (some (.fz (.int 7))), p⟩ = some (.nx, ⟨cs2_7 e6, p⟩) := by
    rw [show rangeD 0 1 7 = [.int 0, .int 1, .int 2, .int 3, .int 4, .int 5, .int 6] from rfl, l0, l1, l2, l3, l4, l5, l6]; rfl
  exact counts_of cpre2_7 (cbEnd_ok (m := 7) rfl rfl hl rfl) rfl ⟨rfl, by simp⟩
theorem cpre2_8 : eqR (cbPre ⟨envOf 11 [.d (.int 2), .d (.int 8)], none⟩) (cs2_0 (some (.fz (.int 8)))) = true := by decide +kernel
theorem counts2_8 (p : Option PotSt) : D_counts_behind [.d (.int 2), .d (.int 8)] p = some (.fz (.dict cb2_8), p) := by
  obtain ⟨e0, l0⟩ := clp2_0 [.int 1, .int 2, .int 3, .int 4, .int 5, .int 6, .int 7] (some (.fz (.int 8))) p
  obtain ⟨e1, l1⟩ := clp2_1 [.int 2, .int 3, .int 4, .int 5, .int 6, .int 7] e0 p
  obtain ⟨e2, l2⟩ := clp2_2 [.int 3, .int 4, .int 5, .int 6, .int 7] e1 p
  obtain ⟨e3, l3⟩ := clp2_3 [.int 4, .int 5, .int 6, .int 7] e2 p
  obtain ⟨e4, l4⟩ := clp2_4 [.int 5, .int 6, .int 7] e3 p
  obtain ⟨e5, l5⟩ := clp2_5 [.int 6, .int 7] e4 p
  obtain ⟨e6, l6⟩ := clp2_6 [.int 7] e5 p
  obtain ⟨e7, l7⟩ := clp2_7 [] e6 p
  have hl : dForL (gVar 4) cbBody (rangeD 0 1 8) ⟨cs2_0 (some (.fz (.int 8))), p⟩ = some (.nx, ⟨cs2_8 e7, p⟩) := by
    rw [show rangeD 0 1 8 = [.int 0, .int 1, .int 2, .int 3, .int 4, .int 5, .int 6, .int 7] from rfl, l0, l1, l2, l3, l4, l5, l6, l7]; rfl
  exact counts_of cpre2_8 (cbEnd_ok (m := 8) rfl rfl hl rfl) rfl ⟨rfl, by simp⟩
theorem cpre2_9 : eqR (cbPre ⟨envOf 11 [.d (.int 2), .d (.int 9)], none⟩) (cs2_0 (some (.fz (.int 9)))) = true := by decide +kernel
theorem counts2_9 (p : Option PotSt) : D_counts_behind [.d (.int 2), .d (.int 9)] p = some (.fz (.dict cb2_9), p) := by
  obtain ⟨e0, l0⟩ := clp2_0 [.int 1, .int 2, .int 3, .int 4, .int 5, .int 6, .int 7, .int 8] (some (.fz (.int 9))) p
  obtain ⟨e1, l1⟩ := clp2_1 [.int 2, .int 3, .int 4, .int 5, .int 6, .int 7, .int 8] e0 p
  obtain ⟨e2, l2⟩ := clp2_2 [.int 3, .int 4, .int 5, .int 6, .int 7, .int 8] e1 p
  obtain ⟨e3, l3⟩ := clp2_3 [.int 4, .int 5, .int 6, .int 7, .int 8] e2 p
  obtain ⟨e4, l4⟩ := clp2_4 [.int 5, .int 6, .int 7, .int 8] e3 p
  obtain ⟨e5, l5⟩ := clp2_5 [.int 6, .int 7, .int 8] e4 p
  obtain ⟨e6, l6⟩ := clp2_6 [.int 7, .int 8] e5 p
  obtain ⟨e7, l7⟩ := clp2_7 [.int 8] e6 p
  obtain ⟨e8, l8⟩ := clp2_8 [] e7 p
  have hl : dForL (gVar 4) cbBody (rangeD 0 1 9) ⟨cs2_0 (some (.fz (.int 9))), p⟩ = some (.nx, ⟨cs2_9 e8, p⟩) := by
    rw [show rangeD 0 1 9 = [.int 0, .int 1, .int 2, .int 3, .int 4, .int 5, .int 6, .int 7, .int 8] from rfl, l0, l1, l2, l3, l4, l5, l6, l7, l8]; rfl
  exact counts_of cpre2_9 (cbEnd_ok (m := 9) rfl rfl hl rfl) rfl ⟨rfl, by simp⟩
theorem cpre2_10 : eqR (cbPre ⟨envOf 11 [.d (.int 2), .d (.int 10)], none⟩) (cs2_0 (some (.fz (.int 10)))) = true := by decide +kernel
theorem counts2_10 (p : Option PotSt) : D_counts_behind [.d (.int 2), .d (.int 10)] p = some (.fz (.dict cb2_10), p) := by
  obtain ⟨e0, l0⟩ := clp2_0 [.int 1, .int 2, .int 3, .int 4, .int 5, .int 6, .int 7, .int 8, .int 9] (some (.fz (.int 10))) p
  obtain ⟨e1, l1⟩ := clp2_1 [.int 2, .int 3, .int 4, .int 5, .int 6, .int 7, .int 8, .int 9] e0 p
  obtain ⟨e2, l2⟩ := clp2_2 [.int 3, .int 4, .int 5, .int 6, .int 7, .int 8, .int 9] e1 p
  obtain ⟨e3, l3⟩ := clp2_3 [.int 4, .int 5, .int 6, .int 7, .int 8, .int 9] e2 p
  obtain ⟨e4, l4⟩ := clp2_4 [.int 5, .int 6, .int 7, .int 8, .int 9] e3 p
  obtain ⟨e5, l5⟩ := clp2_5 [.int 6, .int 7, .int 8, .int 9] e4 p
  obtain ⟨e6, l6⟩ := clp2_6 [.int 7, .int 8, .int 9] e5 p
  obtain ⟨e7, l7⟩ := clp2_7 [.int 8, .int 9] e6 p
  obtain ⟨e8, l8⟩ := clp2_8 [.int 9] e7 p
  obtain ⟨e9, l9⟩ := clp2_9 [] e8 p
  have hl : dForL (gVar 4) cbBody (rangeD 0 1 10) ⟨cs2_0 (some (.fz (.int 10))), p⟩ = some (.nx, ⟨cs2_10 e9, p⟩) := by
    rw [show rangeD 0 1 10 = [.int 0, .int 1, .int 2, .int 3, .int 4, .int 5, .int 6, .int 7, .int 8, .int 9] from rfl, l0, l1, l2, l3, l4, l5, l6, l7, l8, l9]; rfl
  exact counts_of cpre2_10 (cbEnd_ok (m := 10) rfl rfl hl rfl) rfl ⟨rfl, by simp⟩
theorem cpre2_11 : eqR (cbPre ⟨envOf 11 [.d (.int 2), .d (.int 11)], none⟩) (cs2_0 (some (.fz (.int 11)))) = true := by decide +kernel
theorem counts2_11 (p : Option PotSt) : D_counts_behind [.d (.int 2), .d (.int 11)] p = some (.fz (.dict cb2_11), p) := by
  obtain ⟨e0, l0⟩ := clp2_0 [.int 1, .int 2, .int 3, .int 4, .int 5, .int 6, .int 7, .int 8, .int 9, .int 10] (some (.fz (.int 11))) p
  obtain ⟨e1, l1⟩ := clp2_1 [.int 2, .int 3, .int 4, .int 5, .int 6, .int 7, .int 8, .int 9, .int 10] e0 p
  obtain ⟨e2, l2⟩ := clp2_2 [.int 3, .int 4, .int 5, .int 6, .int 7, .int 8, .int 9, .int 10] e1 p
  obtain ⟨e3, l3⟩ := clp2_3 [.int 4, .int 5, .int 6, .int 7, .int 8, .int 9, .int 10] e2 p
  obtain ⟨e4, l4⟩ := clp2_4 [.int 5, .int 6, .int 7, .int 8, .int 9, .int 10] e3 p
  obtain ⟨e5, l5⟩ := clp2_5 [.int 6, .int 7, .int 8, .int 9, .int 10] e4 p
  obtain ⟨e6, l6⟩ := clp2_6 [.int 7, .int 8, .int 9, .int 10] e5 p
  obtain ⟨e7, l7⟩ := clp2_7 [.int 8, .int 9, .int 10] e6 p
  obtain ⟨e8, l8⟩ := clp2_8 [.int 9, .int 10] e7 p
  obtain ⟨e9, l9⟩ := clp2_9 [.int 10] e8 p
  obtain ⟨e10, l10⟩ := clp2_10 [] e9 p
  have hl : dForL (gVar 4) cbBody (rangeD 0 1 11) ⟨cs2_0 (some (.fz (.int 11))), p⟩ = some (.nx, ⟨cs2_11 e10, p⟩) := by
    rw [show rangeD 0 1 11 = [.int 0, .int 1, .int 2, .int 3, .int 4, .int 5, .int 6, .int 7, .int 8, .int 9, .int 10] from rfl, l0, l1, l2, l3, l4, l5, l6, l7, l8, l9, l10]; rfl
  exact counts_of cpre2_11 (cbEnd_ok (m := 11) rfl rfl hl rfl) rfl ⟨rfl, by simp⟩
theorem cpre2_12 : eqR (cbPre ⟨envOf 11 [.d (.int 2), .d (.int 12)], none⟩) (cs2_0 (some (.fz (.int 12)))) = true := by decide +kernel
theorem counts2_12 (p : Option PotSt) : D_counts_behind [.d (.int 2), .d (.int 12)] p = some (.fz (.dict cb2_12), p) := by
  obtain ⟨e0, l0⟩ := clp2_0 [.int 1, .int 2, .int 3, .int 4, .int 5, .int 6, .int 7, .int 8, .int 9, .int 10, .int 11] (some (.fz (.int 12))) p
  obtain ⟨e1, l1⟩ := clp2_1 [.int 2, .int 3, .int 4, .int 5, .int 6, .int 7, .int 8, .int 9, .int 10, .int 11] e0 p
  obtain ⟨e2, l2⟩ := clp2_2 [.int 3, .int 4, .int 5, .int 6, .int 7, .int 8, .int 9, .int 10, .int 11] e1 p
  obtain ⟨e3, l3⟩ := clp2_3 [.int 4, .int 5, .int 6, .int 7, .int 8, .int 9, .int 10, .int 11] e2 p
  obtain ⟨e4, l4⟩ := clp2_4 [.int 5, .int 6, .int 7, .int 8, .int 9, .int 10, .int 11] e3 p
  obtain ⟨e5, l5⟩ := clp2_5 [.int 6, .int 7, .int 8, .int 9, .int 10, .int 11] e4 p
  obtain ⟨e6, l6⟩ := clp2_6 [.int 7, .int 8, .int 9, .int 10, .int 11] e5 p
  obtain ⟨e7, l7⟩ := clp2_7 [.int 8, .int 9, .int 10, .int 11] e6 p
  obtain ⟨e8, l8⟩ := clp2_8 [.int 9, .int 10, .int 11] e7 p
  obtain ⟨e9, l9⟩ := clp2_9 [.int 10, .int 11] e8 p
  obtain ⟨e10, l10⟩ := clp2_10 [.int 11] e9 p
  obtain ⟨e11, l11⟩ := clp2_11 [] e10 p
  have hl : dForL (gVar 4) cbBody (rangeD 0 1 12) ⟨cs2_0 (some (.fz (.int 12))), p⟩ = some (.nx, ⟨cs2_12 e11, p⟩) := by
    rw [show rangeD 0 1 12 = [.int 0, .int 1, .int 2, .int 3, .int 4, .int 5, .int 6, .int 7, .int 8, .int 9, .int 10, .int 11] from rfl, l0, l1, l2, l3, l4, l5, l6, l7, l8, l9, l10, l11]; rfl
  exact counts_of cpre2_12 (cbEnd_ok (m := 12) rfl rfl hl rfl) rfl ⟨rfl, by simp⟩
theorem clp3_0 (l : List PyData) (e : Option Sl) (p : Option PotSt) : ∃ e', dForL (gVar 4) cbBody (.int 0 :: l) ⟨cs3_0 e, p⟩ = dForL (gVar 4) cbBody l ⟨cs3_1 e', p⟩ :=
  turn_at (i := 1) (some (.fz (.int 0))) (fun p => rd_turn rg_var rel_cbBody _) (fun _ => rfl) (fun _ => rfl) (Nat.le_of_ble_eq_true rfl) cstep3_0 l e p
theorem clp3_1 (l : List PyData) (e : Option Sl) (p : Option PotSt) : ∃ e', dForL (gVar 4) cbBody (.int 1 :: l) ⟨cs3_1 e, p⟩ = dForL (gVar 4) cbBody l ⟨cs3_2 e', p⟩ :=
  turn_at (i := 1) (some (.fz (.int 0))) (fun p => rd_turn rg_var rel_cbBody _) (fun _ => rfl) (fun _ => rfl) (Nat.le_of_ble_eq_true rfl) cstep3_1 l e p
theorem clp3_2 (l : List PyData) (e : Option Sl) (p : Option PotSt) : ∃ e', dForL (gVar 4) cbBody (.int 2 :: l) ⟨cs3_2 e, p⟩ = dForL (gVar 4) cbBody l ⟨cs3_3 e', p⟩ :=
  turn_at (i := 1) (some (.fz (.int 0))) (fun p => rd_turn rg_var rel_cbBody _) (fun _ => rfl) (fun _ => rfl) (Nat.le_of_ble_eq_true rfl) cstep3_2 l e p
theorem clp3_3 (l : List PyData) (e : Option Sl) (p : Option PotSt) : ∃ e', dForL (gVar 4) cbBody (.int 3 :: l) ⟨cs3_3 e, p⟩ = dForL (gVar 4) cbBody l ⟨cs3_4 e', p⟩ :=
  turn_at (i := 1) (some (.fz (.int 0))) (fun p => rd_turn rg_var rel_cbBody _) (fun _ => rfl) (fun _ => rfl) (Nat.le_of_ble_eq_true rfl) cstep3_3 l e p
theorem clp3_4 (l : List PyData) (e : Option Sl) (p : Option PotSt) : ∃ e', dForL (gVar 4) cbBody (.int 4 :: l) ⟨cs3_4 e, p⟩ = dForL (gVar 4) cbBody l ⟨cs3_5 e', p⟩ :=
  turn_at (i := 1) (some (.fz (.int 0))) (fun p => rd_turn rg_var rel_cbBody _) (fun _ => rfl) (fun _ => rfl) (Nat.le_of_ble_eq_true rfl) cstep3_4 l e p
theorem clp3_5 (l : List PyData) (e : Option Sl) (p : Option PotSt) : ∃ e', dForL (gVar 4) cbBody (.int 5 :: l) ⟨cs3_5 e, p⟩ = dForL (gVar 4) cbBody l ⟨cs3_6 e', p⟩ :=
  turn_at (i := 1) (some (.fz (.int 0))) (fun p => rd_turn rg_var rel_cbBody _) (fun _ => rfl) (fun _ => rfl) (Nat.le_of_ble_eq_true rfl) cstep3_5 l e p
theorem clp3_6 (l : List PyData) (e : Option Sl) (p : Option PotSt) : ∃ e', dForL (gVar 4) cbBody (.int 6 :: l) ⟨cs3_6 e, p⟩ = dForL (gVar 4) cbBody l ⟨cs3_7 e', p⟩ :=
  turn_at (i := 1) (some (.fz (.int 0))) (fun p => rd_turn rg_var rel_cbBody _) (fun _ => rfl) (fun _ => rfl) (Nat.le_of_ble_eq_true rfl) cstep3_6 l e p
theorem clp3_7 (l : List PyData) (e : Option Sl) (p : Option PotSt) : ∃ e', dForL (gVar 4) cbBody (.int 7 :: l) ⟨cs3_7 e, p⟩ = dForL (gVar 4) cbBody l ⟨cs3_8 e', p⟩ :=
  turn_at (i := 1) (some (.fz (.int 0))) (fun p => rd_turn rg_var rel_cbBody _) (fun _ => rfl) (fun _ => rfl) (Nat.le_of_ble_eq_true rfl) cstep3_7 l e p
theorem clp3_8 (l : List PyData) (e : Option Sl) (p : Option PotSt) : ∃ e', dForL (gVar 4) cbBody (.int 8 :: l) ⟨cs3_8 e, p⟩ = dForL (gVar 4) cbBody l ⟨cs3_9 e', p⟩ :=
  turn_at (i := 1) (some (.fz (.int 0))) (fun p => rd_turn rg_var rel_cbBody _) (fun _ => rfl) (fun _ => rfl) (Nat.le_of_ble_eq_true rfl) cstep3_8 l e p
theorem clp3_9 (l : List PyData) (e : Option Sl) (p : Option PotSt) : ∃ e', dForL (gVar 4) cbBody (.int 9 :: l) ⟨cs3_9 e, p⟩ = dForL (gVar 4) cbBody l ⟨cs3_10 e', p⟩ :=
  turn_at (i := 1) (some (.fz (.int 0))) (fun p => rd_turn rg_var rel_cbBody _) (fun _ => rfl) (fun _ => rfl) (Nat.le_of_ble_eq_true rfl) cstep3_9 l e p
theorem clp3_10 (l : List PyData) (e : Option Sl) (p : Option PotSt) : ∃ e', dForL (gVar 4) cbBody (.int 10 :: l) ⟨cs3_10 e, p⟩ = dForL (gVar 4) cbBody l ⟨cs3_11 e', p⟩ :=
  turn_at (i := 1) (some (.fz (.int 0))) (fun p => rd_turn rg_var rel_cbBody _) (fun _ => rfl) (fun _ => rfl) (Nat.le_of_ble_eq_true rfl) cstep3_10 l e p
theorem clp3_11 (l : List PyData) (e : Option Sl) (p : Option PotSt) : ∃ e', dForL (gVar 4) cbBody (.int 11 :: l) ⟨cs3_11 e, p⟩ = dForL (gVar 4) cbBody l ⟨cs3_12 e', p⟩ :=
  turn_at (i := 1) (some (.fz (.int 0))) (fun p => rd_turn rg_var rel_cbBody _) (fun _ => rfl) (fun _ => rfl) (Nat.le_of_ble_eq_true rfl) cstep3_11 l e p
theorem cpre3_0 : eqR (cbPre ⟨envOf 11 [.d (.int 3), .d (.int 0)], none⟩) (cs3_0 (some (.fz (.int 0)))) = true := by decide +kernel
theorem counts3_0 (p : Option PotSt) : D_counts_behind [.d (.int 3), .d (.int 0)] p = some (.fr (.dict cb3_0), p) := by
  have hl : dForL (gVar 4) cbBody (rangeD 0 1 0) ⟨cs3_0 (some (.fz (.int 0))), p⟩ = some (.nx, ⟨cs3_0 (some (.fz (.int 0))), p⟩) := by
    rw [show rangeD 0 1 0 = [] from rfl]; rfl
  exact counts_of cpre3_0 (cbEnd_ok0 (m := 0) rfl rfl hl rfl) rfl ⟨rfl, by simp⟩
theorem cpre3_1 : eqR (cbPre ⟨envOf 11 [.d (.int 3), .d (.int 1)], none⟩) (cs3_0 (some (.fz (.int 1)))) = true := by decide +kernel
theorem counts3_1 (p : Option PotSt) : D_counts_behind [.d (.int 3), .d (.int 1)] p = some (.fz (.dict cb3_1), p) := by
  obtain ⟨e0, l0⟩ := clp3_0 [] (some (.fz (.int 1))) p
  have hl : dForL (gVar 4) cbBody (rangeD 0 1 1) ⟨cs3_0 (some (.fz (.int 1))), p⟩ = some (.nx, ⟨cs3_1 e0, p⟩) := by
    rw [show rangeD 0 1 1 = [.int 0] from rfl, l0]; rfl
  exact counts_of cpre3_1 (cbEnd_ok (m := 1) rfl rfl hl rfl) rfl ⟨rfl, by simp⟩
theorem cpre3_2 : eqR (cbPre ⟨envOf 11 [.d (.int 3), .d (.int 2)], none⟩) (cs3_0 (some (.fz (.int 2)))) = true := by decide +kernel
theorem counts3_2 (p : Option PotSt) : D_counts_behind [.d (.int 3), .d (.int 2)] p = some (.fz (.dict cb3_2), p) := by
  obtain ⟨e0, l0⟩ := clp3_0 [.int 1] (some (.fz (.int 2))) p
  obtain ⟨e1, l1⟩ := clp3_1 [] e0 p
  have hl : dForL (gVar 4) cbBody (rangeD 0 1 2) ⟨cs3_0 (some (.fz (.int 2))), p⟩ = some (.nx, ⟨cs3_2 e1, p⟩) := by
    rw [show rangeD 0 1 2 = [.int 0, .int 1] from rfl, l0, l1]; rfl
  exact counts_of cpre3_2 (cbEnd_ok (m := 2) rfl rfl hl rfl) rfl ⟨rfl, by simp⟩
theorem cpre3_3 : eqR (cbPre ⟨envOf 11 [.d (.int 3), .d (.int 3)], none⟩) (cs3_0 (some (.fz (.int 3)))) = true := by decide +kernel
theorem counts3_3 (p : Option PotSt) : D_counts_behind [.d (.int 3), .d (.int 3)] p = some (.fz (.dict cb3_3), p) := by
  obtain ⟨e0, l0⟩ := clp3_0 [.int 1, .int 2] (some (.fz (.int 3))) p
  obtain ⟨e1, l1⟩ := clp3_1 [.int 2] e0 p
  obtain ⟨e2, l2⟩ := clp3_2 [] e1 p
  have hl : dForL (gVar 4) cbBody (rangeD 0 1 3) ⟨cs3_0 (some (.fz (.int 3))), p⟩ = some (.nx, ⟨cs3_3 e2, p⟩) := by
    rw [show rangeD 0 1 3 = [.int 0, .int 1, .int 2] from rfl, l0, l1, l2]; rfl
  exact counts_of cpre3_3 (cbEnd_ok (m := 3) rfl rfl hl rfl) rfl ⟨rfl, by simp⟩
theorem cpre3_4 : eqR (cbPre ⟨envOf 11 [.d (.int 3), .d (.int 4)], none⟩) (cs3_0 (some (.fz (.int 4)))) = true := by decide +kernel
theorem counts3_4 (p : Option PotSt) : D_counts_behind [.d (.int 3), .d (.int 4)] p = some (.fz (.dict cb3_4), p) := by
  obtain ⟨e0, l0⟩ := clp3_0 [.int 1, .int 2, .int 3] (some (.fz (.int 4))) p
  obtain ⟨e1, l1⟩ := clp3_1 [.int 2, .int 3] e0 p
  obtain ⟨e2, l2⟩ := clp3_2 [.int 3] e1 p
  obtain ⟨e3, l3⟩ := clp3_3 [] e2 p
  have hl : dForL (gVar 4) cbBody (rangeD 0 1 4) ⟨cs3_0 (some (.fz (.int 4))), p⟩ = some (.nx, ⟨cs3_4 e3, p⟩) := by
    rw [show rangeD 0 1 4 = [.int 0, .int 1, .int 2, .int 3] from rfl, l0, l1, l2, l3]; rfl
  exact counts_of cpre3_4 (cbEnd_ok (m := 4) rfl rfl hl rfl) rfl ⟨rfl, by simp⟩
theorem cpre3_5 : eqR (cbPre ⟨envOf 11 [.d (.int 3), .d (.int 5)], none⟩) (cs3_0 (some (.fz (.int 5)))) = true := by decide +kernel
theorem counts3_5 (p : Option PotSt) : D_counts_behind [.d (.int 3), .d (.int 5)] p = some (.fz (.dict cb3_5), p) := by
  obtain ⟨e0, l0⟩ := clp3_0 [.int 1, .int 2, .int 3, .int 4] (some (.fz (.int 5))) p
  obtain ⟨e1, l1⟩ := clp3_1 [.int 2, .int 3, .int 4] e0 p
  obtain ⟨e2, l2⟩ := clp3_2 [.int 3, .int 4] e1 p
  obtain ⟨e3, l3⟩ := clp3_3 [.int 4] e2 p
  obtain ⟨e4, l4⟩ := clp3_4 [] e3 p
  have hl : dForL (gVar 4) cbBody (rangeD 0 1 5) ⟨cs3_0 (some (.fz (.int 5))), p⟩ = some (.nx, ⟨cs3_5 e4, p⟩) := by
    rw [show rangeD 0 1 5 = [.int 0, .int 1, .int 2, .int 3, .int 4] from rfl, l0, l1, l2, l3, l4]; rfl
  exact counts_of cpre3_5 (cbEnd_ok (m := 5) rfl rfl hl rfl) rfl ⟨rfl, by simp⟩
theorem cpre3_6 : eqR (cbPre ⟨envOf 11 [.d (.int 3), .d (.int 6)], none⟩) (cs3_0 (some (.fz (.int 6)))) = true := by decide +kernel
theorem counts3_6 (p : Option PotSt) : D_counts_behind [.d (.int 3), .d (.int 6)] p = some (.fz (.dict cb3_6), p) := by
  obtain ⟨e0, l0⟩ := clp3_0 [.int 1, .int 2, .int 3, .int 4, .int 5] (some (.fz (.int 6))) p
  obtain ⟨e1, l1⟩ := clp3_1 [.int 2, .int 3, .int 4, .int 5] e0 p
  obtain ⟨e2, l2⟩ := clp3_2 [.int 3, .int 4, .int 5] e1 p
  obtain ⟨e3, l3⟩ := clp3_3 [.int 4, .int 5] e2 p
  obtain ⟨e4, l4⟩ := clp3_4 [.int 5] e3 p
  obtain ⟨e5, l5⟩ := clp3_5 [] e4 p
  have hl : dForL (gVar 4) cbBody (rangeD 0 1 6) ⟨cs3_0 (some (.fz (.int 6))), p⟩ = some (.nx, ⟨cs3_6 e5, p⟩) := by
    rw [show rangeD 0 1 6 = [.int 0, .int 1, .int 2, .int 3, .int 4, .int 5] from rfl, l0, l1, l2, l3, l4, l5]; rfl
  exact counts_of cpre3_6 (cbEnd_ok (m := 6) rfl rfl hl rfl) rfl ⟨rfl, by simp⟩
theorem cpre3_7 : eqR (cbPre ⟨envOf 11 [.d (.int 3), .d (.int 7)], none⟩) (cs3_0 (some (.fz (.int 7)))) = true := by decide +kernel
theorem counts3_7 (p : Option PotSt) : D_counts_behind [.d (.int 3), .d (.int 7)] p = some (.fz (.dict cb3_7), p) := by
  obtain ⟨e0, l0⟩ := clp3_0 [.int 1, .int 2, .int 3, .int 4, .int 5, .int 6] (some (.fz (.int 7))) p
  obtain ⟨e1, l1⟩ := clp3_1 [.int 2, .int 3, .int 4, .int 5, .int 6] e0 p
  obtain ⟨e2, l2⟩ := clp3_2 [.int 3, .int 4, .int 5, .int 6] e1 p
  obtain ⟨e3, l3⟩ := clp3_3 [.int 4, .int 5, .int 6] e2 p
  obtain ⟨e4, l4⟩ := clp3_4 [.int 5, .int 6] e3 p
  obtain ⟨e5, l5⟩ := clp3_5 [.int 6] e4 p
  obtain ⟨e6, l6⟩ := clp3_6 [] e5 p
  have hl : dForL (gVar 4) cbBody (rangeD 0 1 7) ⟨cs3_0 (some (.fz (.int 7))), p⟩ = some (.nx, ⟨cs3_7 e6, p⟩) := by
    rw [show rangeD 0 1 7 = [.int 0, .int 1, .int 2, .int 3, .int 4, .int 5, .int 6] from rfl, l0, l1, l2, l3, l4, l5, l6]; rfl
  exact counts_of cpre3_7 (cbEnd_ok (m := 7) rfl rfl hl rfl) rfl ⟨rfl, by simp⟩
theorem cpre3_8 : eqR (cbPre ⟨envOf 11 [.d (.int 3), .d (.int 8)], none⟩) (cs3_0 (some (.fz (.int 8)))) = true := by decide +kernel
theorem counts3_8 (p : Option PotSt) : D_counts_behind [.d (.int 3), .d (.int 8)] p = some (.fz (.dict cb3_8), p) := by
  obtain ⟨e0, l0⟩ := clp3_0 [.int 1, .int 2, .int 3, .int 4, .int 5, .int 6, .int 7] (some (.fz (.int 8))) p
  obtain ⟨e1, l1⟩ := clp3_1 [.int 2, .int 3, .int 4, .int 5, .int 6, .int 7] e0 p
  obtain ⟨e2, l2⟩ := clp3_2 [.int 3, .int 4, .int 5, .int 6, .int 7] e1 p
  obtain ⟨e3, l3⟩ := clp3_3 [.int 4, .int 5, .int 6, .int 7] e2 p
  obtain ⟨e4, l4⟩ := clp3_4 [.int 5, .int 6, .int 7] e3 p
  obtain ⟨e5, l5⟩ := clp3_5 [.int 6, .int 7] e4 p
  obtain ⟨e6, l6⟩ := clp3_6 [.int 7] e5 p
  obtain ⟨e7, l7⟩ := clp3_7 [] e6 p
  have hl : dForL (gVar 4) cbBody (rangeD 0 1 8) ⟨cs3_0 (some (.fz (.int 8))), p⟩ = some (.nx, ⟨cs3_8 e7, p⟩) := by
    rw [show rangeD 0 1 8 = [.int 0, .int 1, .int 2, .int 3, .int 4, .int 5, .int 6, .int 7] from rfl, l0, l1, l2, l3, l4, l5, l6, l7]; rfl
  exact counts_of cpre3_8 (cbEnd_ok (m := 8) rfl rfl hl rfl) rfl ⟨rfl, by simp⟩
theorem cpre3_9 : eqR (cbPre ⟨envOf 11 [.d (.int 3), .d (.int 9)], none⟩) (cs3_0 (some (.fz (.int 9)))) = true := by decide +kernel
theorem counts3_9 (p : Option PotSt) : D_counts_behind [.d (.int 3), .d (.int 9)] p = some (.fz (.dict cb3_9), p) := by
  obtain ⟨e0, l0⟩ := clp3_0 [.int 1, .int 2, .int 3, .int 4, .int 5, .int 6, .int 7, .int 8] (some (.fz (.int 9))) p
  obtain ⟨e1, l1⟩ := clp3_1 [.int 2, .int 3, .int 4, .int 5, .int 6, .int 7, .int 8] e0 p
  obtain ⟨e2, l2⟩ := clp3_2 [.int 3, .int 4, .int 5, .int 6, .int 7, .int 8] e1 p
  obtain ⟨e3, l3⟩ := clp3_3 [.int 4, .int 5, .int 6, .int 7, .int 8] e2 p
  obtain ⟨e4, l4⟩ := clp3_4 [.int 5, .int 6, .int 7, .int 8] e3 p
  obtain ⟨e5, l5⟩ := clp3_5 [.int 6, .int 7, .int 8] e4 p
  obtain ⟨e6, l6⟩ := clp3_6 [.int 7, .int 8] e5 p
  obtain ⟨e7, l7⟩ := clp3_7 [.int 8] e6 p
  obtain ⟨e8, l8⟩ := clp3_8 [] e7 p
  have hl : dForL (gVar 4) cbBody (rangeD 0 1 9) ⟨cs3_0 (some (.fz (.int 9))), p⟩ = some (.nx, ⟨cs3_9 e8, p⟩) := by
    rw [show rangeD 0 1 9 = [.int 0, .int 1, .int 2, .int 3, .int 4, .int 5, .int 6, .int 7, .int 8] from rfl, l0, l1, l2, l3, l4, l5, l6, l7, l8]; rfl
  exact counts_of cpre3_9 (cbEnd_ok (m := 9) rfl rfl hl rfl) rfl ⟨rfl, by simp⟩
theorem cpre3_10 : eqR (cbPre ⟨envOf 11 [.d (.int 3), .d (.int 10)], none⟩) (cs3_0 (some (.fz (.int 10)))) = true := by decide +kernel
theorem counts3_10 (p : Option PotSt) : D_counts_behind [.d (.int 3), .d (.int 10)] p = some (.fz (.dict cb3_10), p) := by
  obtain ⟨e0, l0⟩ := clp3_0 [.int 1, .int 2, .int 3, .int 4, .int 5, .int 6, .int 7, .int 8, .int 9] (some (.fz (.int 10))) p
  obtain ⟨e1, l1⟩ := clp3_1 [.int 2, .int 3, .int 4, .int 5, .int 6, .int 7, .int 8, .int 9] e0 p
  obtain ⟨e2, l2⟩ := clp3_2 [.int 3, .int 4, .int 5, .int 6, .int 7, .int 8, .int 9] e1 p
  obtain ⟨e3, l3⟩ := clp3_3 [.int 4, .int 5, .int 6, .int 7, .int 8, .int 9] e2 p
  obtain ⟨e4, l4⟩ := clp3_4 [.int 5, .int 6, .int 7, .int 8, .int 9] e3 p
  obtain ⟨e5, l5⟩ := clp3_5 [.int 6, .int 7, .int 8, .int 9] e4 p
  obtain ⟨e6, l6⟩ := clp3_6 [.int 7, .int 8, .int 9] e5 p
  obtain ⟨e7, l7⟩ := clp3_7 [.int 8, .int 9] e6 p
  obtain ⟨e8, l8⟩ := clp3_8 [.int 9] e7 p
  obtain ⟨e9, l9⟩ := clp3_9 [] e8 p
  have hl : dForL (gVar 4) cbBody (rangeD 0 1 10) ⟨cs3_0 (some (.fz (.int 10))), p⟩ = some (.nx, ⟨cs3_10 e9, p⟩) := by
    rw [show rangeD 0 1 10 = [.int 0, .int 1, .int 2, .int 3, .int 4, .int 5, .int 6, .int 7, .int 8, .int 9] from rfl, l0, l1, l2, l3, l4, l5, l6, l7, l8, l9]; rfl
  exact counts_of cpre3_10 (cbEnd_ok (m := 10) rfl rfl hl rfl) rfl ⟨rfl, by simp⟩
theorem cpre3_11 : eqR (cbPre ⟨envOf 11 [.d (.int 3), .d (.int 11)], none⟩) (cs3_0 (some (.fz (.int 11)))) = true := by decide +kernel
theorem counts3_11 (p : Option PotSt) : D_counts_behind [.d (.int 3), .d (.int 11)] p = some (.fz (.dict cb3_11), p) := by
  obtain ⟨e0, l0⟩ := clp3_0 [.int 1, .int 2, .int 3, .int 4, .int 5, .int 6, .int 7, .int 8, .int 9, .int 10] (some (.fz (.int 11))) p
  obtain ⟨e1, l1⟩ := clp3_1 [.int 2, .int 3, .int 4, .int 5, .int 6, .int 7, .int 8, .int 9, .int 10] e0 p
  obtain ⟨e2, l2⟩ := clp3_2 [.int 3, .int 4, .int 5, .int 6, .int 7, .int 8, .int 9, .int 10] e1 p
  obtain ⟨e3, l3⟩ := clp3_3 [.int 4, .int 5, .int 6, .int 7, .int 8, .int 9, .int 10] e2 p
  obtain ⟨e4, l4⟩ := clp3_4 [.int 5, .int 6, .int 7, .int 8, .int 9, .int 10] e3 p
  obtain ⟨e5, l5⟩ := clp3_5 [.int 6, .int 7, .int 8, .int 9, .int 10] e4 p
  obtain ⟨e6, l6⟩ := clp3_6 [.int 7, .int 8, .int 9, .int 10] e5 p
  obtain ⟨e7, l7⟩ := clp3_7 [.int 8, .int 9, .int 10] e6 p
  obtain ⟨e8, l8⟩ := clp3_8 [.int 9, .int 10] e7 p
  obtain ⟨e9, l9⟩ := clp3_9 [.int 10] e8 p
  obtain ⟨e10, l10⟩ := clp3_10 [] e9 p
  have hl : dForL (gVar 4) cbBody (rangeD 0 1 11) ⟨cs3_0 (some (.fz (.int 11))), p⟩ = some (.nx, ⟨cs3_11 e10, p⟩) := by
    rw [show rangeD 0 1 11 = [.int 0, .int 1, .int 2, .int 3, .int 4, .int 5, .int 6, .int 7, .int 8, .int 9, .int 10] from rfl, l0, l1, l2, l3, l4, l5, l6, l7, l8, l9, l10]; rfl
  exact counts_of cpre3_11 (cbEnd_ok (m := 11) rfl rfl hl rfl) rfl ⟨rfl, by simp⟩
theorem cpre3_12 : eqR (cbPre ⟨envOf 11 [.d (.int 3), .d (.int 12)], none⟩) (cs3_0 (some (.fz (.int 12)))) = true := by decide +kernel
theorem counts3_12 (p : Option PotSt) : D_counts_behind [.d (.int 3), .d (.int 12)] p = some (.fz (.dict cb3_12), p) := by
  obtain ⟨e0, l0⟩ := clp3_0 [.int 1, .int 2, .int 3, .int 4, .int 5, .int 6, .int 7, .int 8, .int 9, .int 10, .int 11] (some (.fz (.int 12))) p
  obtain ⟨e1, l1⟩ := clp3_1 [.int 2, .int 3, .int 4, .int 5, .int 6, .int 7, .int 8, .int 9, .int 10, .int 11] e0 p
  obtain ⟨e2, l2⟩ := clp3_2 [.int 3, .int 4, .int 5, .int 6, .int 7, .int 8, .int 9, .int 10, .int 11] e1 p
  obtain ⟨e3, l3⟩ := clp3_3 [.int 4, .int 5, .int 6, .int 7, .int 8, .int 9, .int 10, .int 11] e2 p
  obtain ⟨e4, l4⟩ := clp3_4 [.int 5, .int 6, .int 7, .int 8, .int 9, .int 10, .int 11] e3 p
  obtain ⟨e5, l5⟩ := clp3_5 [.int 6, .int 7, .int 8, .int 9, .int 10, .int 11] e4 p
  obtain ⟨e6, l6⟩ := clp3_6 [.int 7, .int 8, .int 9, .int 10, .int 11] e5 p
  obtain ⟨e7, l7⟩ := clp3_7 [.int 8, .int 9, .int 10, .int 11] e6 p
  obtain ⟨e8, l8⟩ := clp3_8 [.int 9, .int 10, .int 11] e7 p
  obtain ⟨e9, l9⟩ := clp3_9 [.int 10, .int 11] e8 p
  obtain ⟨e10, l10⟩ := clp3_10 [.int 11] e9 p
  obtain ⟨e11, l11⟩ := clp3_11 [] e10 p
  have hl : dForL (gVar 4) cbBody (rangeD 0 1 12) ⟨cs3_0 (some (.fz (.int 12))), p⟩ = some (.nx, ⟨cs3_12 e11, p⟩) := by
    rw [show rangeD 0 1 12 = [.int 0, .int 1, .int 2, .int 3, .int 4, .int 5, .int 6, .int 7, .int 8, .int 9, .int 10, .int 11] from rfl, l0, l1, l2, l3, l4, l5, l6, l7, l8, l9, l10, l11]; rfl
  exact counts_of cpre3_12 (cbEnd_ok (m := 12) rfl rfl hl rfl) rfl ⟨rfl, by simp⟩
end Rg
namespace Rg
open PySem L2
def lcA1 : DS := (dAsg (dCallF D__law_all_rows 1 0 [0] (dCons (dVar 0) dNil) dNil) (gVar 2))
def lcA2 : DS := (dAsg (dLst dNil) (gVar 3))
def lcA3 : DS := (dFor (dRg1 (dCons (dVar 0) dNil)) (gVar 4)
   (dSeq (dExpr (dMut "list" opExtend (dVar 3) (dCons (dLc (dRg2 (dCons (dVar 4) (dCons (dVar 0) dNil))) (gVar 5) dYes (dTup (dCons (dVar 4) (dCons (dVar 5) dNil))) [5]) dNil)))
   dNop))
def lcA4 : DS := (dAsg (dCallB opDict (dCons (dLc (dAny (dVar 2)) (gVar 7) dYes (dTup (dCons (dVar 7) (dCons (dLc (dAny (dVar 3)) (gTupD (gsCons (gVar 4) (gsCons (gVar 5) gsNil))) dYes (dCallF D__law_turned 3 0 [0, 1, 2] (dCons (dVar 7) (dCons (dVar 4) (dCons (dVar 5) dNil))) dNil) [4, 5]) dNil))) [7]) dNil)) (gVar 6))
def lcA5 : DS := (dAsg (dCallB opDict (dCons (dLc (dAny (dVar 2)) (gVar 7) dYes (dTup (dCons (dVar 7) (dCons (dCallB opInt (dCons (dOp opEq (dVar 7) (dRgT2 (dLit (.int 1)) (dOp opAdd (dVar 0) (dLit (.int 1))))) dNil)) dNil))) [7]) dNil)) (gVar 8))
def lcPre : DS := dSeq lcA1 (dSeq lcA2 (dSeq lcA3 (dSeq lcA4 (dSeq lcA5 dNop))))
def lcBody : DS := (dSeq (dAsg (dCallB opDict (dCons (dLc (dAny (dVar 2)) (gVar 7) dYes (dTup (dCons (dVar 7) (dCons (dCallB opSum (dCons (dLc (dAny (dOp opIx (dVar 6) (dVar 7))) (gVar 10) dYes (dOp opIx (dVar 8) (dVar 10)) [10]) dNil)) dNil))) [7]) dNil)) (gVar 8))
   dNop)
def lcEnd : DS := (dSeq (dFor (dRg1 (dCons (dVar 1) dNil)) (gVar 9) lcBody) (dSeq (dRet (dVar 8)) dNop))
theorem lc_split : f__law_counts = dSeq lcA1 (dSeq lcA2 (dSeq lcA3 (dSeq lcA4 (dSeq lcA5 lcEnd)))) := rfl
theorem dSeq_cons {f g h : DS} : dSeq (dSeq f g) h = dSeq f (dSeq g h) := by
  funext s
  unfold dSeq
  cases f s with
  | none => rfl
  | some r =>
    obtain ⟨o, s1⟩ := r
    cases o <;> rfl
theorem dSeq_nop {h : DS} : dSeq dNop h = h := rfl
theorem lc_split2 : f__law_counts = dSeq lcPre lcEnd := by
  rw [lc_split]
  unfold lcPre
  rw [dSeq_cons, dSeq_cons, dSeq_cons, dSeq_cons, dSeq_cons, dSeq_nop]
theorem rel_lcPre {p q : Option PotSt} : Rel [] p q lcPre := by
  unfold lcPre lcA1 lcA2 lcA3 lcA4 lcA5
  repeat' first | refine rd_while ?_ ?_ _ | exact rd_nop | exact re_lit | exact re_empty | exact rt_yes | exact rs_nil | exact rgs_nil | exact ro_no | exact rg_var | exact re_var | refine rd_seq ?_ ?_ | refine rd_asg ?_ ?_ | refine rd_expr ?_ | refine rd_if ?_ ?_ ?_ | refine rd_ret ?_ | refine rd_par ?_ ?_ | refine rd_for ?_ ?_ ?_ | refine rg_tup ?_ | refine rg_ix ?_ ?_ | refine rgs_cons ?_ ?_ | refine ri_any ?_ | refine ri_items ?_ | refine ri_rg1 ?_ | refine ri_rg2 ?_ | refine ri_enum ?_ | refine re_lc ?_ ?_ ?_ ?_ | refine rs_cons ?_ ?_ | refine rs_consP ?_ ?_ | refine re_tup ?_ | refine re_lst ?_ | refine re_disp1 ?_ ?_ | refine re_rgT2 ?_ ?_ | refine re_slice ?_ ?_ ?_ | refine re_rev ?_ | refine ro_part ?_ | refine re_mut ?_ ?_ | refine re_val ?_ | refine rt_bool ?_ | refine rt_and ?_ ?_ | refine rt_neRepr ?_ ?_ | refine rt_asB ?_ | refine re_if ?_ ?_ ?_ | refine re_op ns_opAdd ?_ ?_ | refine re_op ns_opSub ?_ ?_ | refine re_op ns_opMul ?_ ?_ | refine re_op ns_opFDiv ?_ ?_ | refine re_op ns_opMod ?_ ?_ | refine re_op ns_opPow ?_ ?_ | refine re_op ns_opEq ?_ ?_ | refine re_op ns_opNe ?_ ?_ | refine re_op ns_opLt ?_ ?_ | refine re_op ns_opLe ?_ ?_ | refine re_op ns_opGt ?_ ?_ | refine re_op ns_opGe ?_ ?_ | refine re_op ns_opIn ?_ ?_ | refine re_op ns_opNotIn ?_ ?_ | refine re_op ns_opIx ?_ ?_ | refine re_callB ns_opAbs ?_ | refine re_callB ns_opInt ?_ | refine re_callB ns_opLen ?_ | refine re_callB ns_opTuple ?_ | refine re_callB ns_opList ?_ | refine re_callB ns_opSum ?_ | refine re_callB ns_opSorted ?_ | refine re_callB ns_opDict ?_ | refine re_callB ns_opGet ?_ | refine re_callB ns_opMin2 ?_ | refine re_callB ns_opMax2 ?_ | refine re_callB ns_opAny ?_ | refine re_callB ns_opAll ?_ | refine re_met ns_opGet ?_ ?_ | refine re_op1 ns_opNeg ?_ | refine rt_or ?_ ?_ | refine rt_not ?_ | refine re_sumV ?_ | refine re_listV ?_ | refine ri_zip ?_ | refine ri_values ?_ | exact rd_never | refine re_callF rel__law_all_rows ?_ ?_ | refine re_callF rel__law_turned ?_ ?_
theorem rel_lcBody {p q : Option PotSt} : Rel [1] p q lcBody := by
  unfold lcBody
  repeat' first | refine rd_while ?_ ?_ _ | exact rd_nop | exact re_lit | exact re_empty | exact rt_yes | exact rs_nil | exact rgs_nil | exact ro_no | exact rg_var | exact re_var | refine rd_seq ?_ ?_ | refine rd_asg ?_ ?_ | refine rd_expr ?_ | refine rd_if ?_ ?_ ?_ | refine rd_ret ?_ | refine rd_par ?_ ?_ | refine rd_for ?_ ?_ ?_ | refine rg_tup ?_ | refine rg_ix ?_ ?_ | refine rgs_cons ?_ ?_ | refine ri_any ?_ | refine ri_items ?_ | refine ri_rg1 ?_ | refine ri_rg2 ?_ | refine ri_enum ?_ | refine re_lc ?_ ?_ ?_ ?_ | refine rs_cons ?_ ?_ | refine rs_consP ?_ ?_ | refine re_tup ?_ | refine re_lst ?_ | refine re_disp1 ?_ ?_ | refine re_rgT2 ?_ ?_ | refine re_slice ?_ ?_ ?_ | refine re_rev ?_ | refine ro_part ?_ | refine re_mut ?_ ?_ | refine re_val ?_ | refine rt_bool ?_ | refine rt_and ?_ ?_ | refine rt_neRepr ?_ ?_ | refine rt_asB ?_ | refine re_if ?_ ?_ ?_ | refine re_op ns_opAdd ?_ ?_ | refine re_op ns_opSub ?_ ?_ | refine re_op ns_opMul ?_ ?_ | refine re_op ns_opFDiv ?_ ?_ | refine re_op ns_opMod ?_ ?_ | refine re_op ns_opPow ?_ ?_ | refine re_op ns_opEq ?_ ?_ | refine re_op ns_opNe ?_ ?_ | refine re_op ns_opLt ?_ ?_ | refine re_op ns_opLe ?_ ?_ | refine re_op ns_opGt ?_ ?_ | refine re_op ns_opGe ?_ ?_ | refine re_op ns_opIn ?_ ?_ | refine re_op ns_opNotIn ?_ ?_ | refine re_op ns_opIx ?_ ?_ | refine re_callB ns_opAbs ?_ | refine re_callB ns_opInt ?_ | refine re_callB ns_opLen ?_ | refine re_callB ns_opTuple ?_ | refine re_callB ns_opList ?_ | refine re_callB ns_opSum ?_ | refine re_callB ns_opSorted ?_ | refine re_callB ns_opDict ?_ | refine re_callB ns_opGet ?_ | refine re_callB ns_opMin2 ?_ | refine re_callB ns_opMax2 ?_ | refine re_callB ns_opAny ?_ | refine re_callB ns_opAll ?_ | refine re_met ns_opGet ?_ ?_ | refine re_op1 ns_opNeg ?_ | refine rt_or ?_ ?_ | refine rt_not ?_ | refine re_sumV ?_ | refine re_listV ?_ | refine ri_zip ?_ | refine ri_values ?_ | exact rd_never
theorem lcEnd_ok {E Em : List (Option Sl)} {m : Nat} {p : Option PotSt} {d : PyData} (h1 : E[1]? = some (some (.fz (.int m)))) (hm : small62 (m : Int) = true) (h2 : dForL (gVar 9) lcBody (rangeD 0 1 m) ⟨E, p⟩ = some (.nx, ⟨Em, p⟩)) (h3 : Em[8]? = some (some (.own d))) : lcEnd ⟨E, p⟩ = some (.rt (.fr d), ⟨Em.set 8 none, p⟩) := by
  simp [lcEnd, dSeq, dFor, dRg1, dCons, dNil, dSet, dVar, settle, h1, hm, h2, dRet, h3, leave]
theorem lawc_of {n m : Int} {E : List (Option Sl)} {p : Option PotSt} {d : PyData} {s : S} (h : eqR (lcPre ⟨envOf 11 [.d (.int n), .d (.int m)], none⟩) E = true) (h2 : lcEnd ⟨E, p⟩ = some (.rt (.fr d), s)) (h3 : s.pot = p) : D__law_counts [.d (.int n), .d (.int m)] p = some (.fr d, p) := by
  unfold D__law_counts runDef
  rw [lc_split2]
  have h0 := rel_lcPre.pot (of_eqR h) (p := p)
  simp [dSeq, h0, h2, h3, samePot_self]
def rw1 : List PyData := [tr [-1], tr [1]]
def to1 : List (PyData × PyData) := [(tr [-1], .list [tr [1]]), (tr [1], .list [tr [-1]])]
def ld1_0 : List (PyData × PyData) := tb [([-1], 0), ([1], 1)]
def ls1_0 (e : Option Sl) : List (Option Sl) := [some (.fz (.int 1)), e, some (.fz (.list rw1)), some (.fz tn1), some (.fz (.int 0)), none, some (.own (.dict to1)), none, some (.own (.dict ld1_0)), none, none]
def ld1_1 : List (PyData × PyData) := tb [([-1], 1), ([1], 0)]
def ls1_1 (e : Option Sl) : List (Option Sl) := [some (.fz (.int 1)), e, some (.fz (.list rw1)), some (.fz tn1), some (.fz (.int 0)), none, some (.own (.dict to1)), none, some (.own (.dict ld1_1)), some (.fz (.int 0)), none]
theorem lstep1_0 : eqR (dTurn (gVar 9) lcBody (.int 0) ⟨ls1_0 (some (.fz (.int 0))), none⟩) (ls1_1 (some (.fz (.int 0)))) = true := by decide +kernel
def ld1_2 : List (PyData × PyData) := tb [([-1], 0), ([1], 1)]
def ls1_2 (e : Option Sl) : List (Option Sl) := [some (.fz (.int 1)), e, some (.fz (.list rw1)), some (.fz tn1), some (.fz (.int 0)), none, some (.own (.dict to1)), none, some (.own (.dict ld1_2)), some (.fz (.int 1)), none]
theorem lstep1_1 : eqR (dTurn (gVar 9) lcBody (.int 1) ⟨ls1_1 (some (.fz (.int 0))), none⟩) (ls1_2 (some (.fz (.int 0)))) = true := by decide +kernel
def ld1_3 : List (PyData × PyData) := tb [([-1], 1), ([1], 0)]
def ls1_3 (e : Option Sl) : List (Option Sl) := [some (.fz (.int 1)), e, some (.fz (.list rw1)), some (.fz tn1), some (.fz (.int 0)), none, some (.own (.dict to1)), none, some (.own (.dict ld1_3)), some (.fz (.int 2)), none]
theorem lstep1_2 : eqR (dTurn (gVar 9) lcBody (.int 2) ⟨ls1_2 (some (.fz (.int 0))), none⟩) (ls1_3 (some (.fz (.int 0)))) = true := by decide +kernel
def ld1_4 : List (PyData × PyData) := tb [([-1], 0), ([1], 1)]
def ls1_4 (e : Option Sl) : List (Option Sl) := [some (.fz (.int 1)), e, some (.fz (.list rw1)), some (.fz tn1), some (.fz (.int 0)), none, some (.own (.dict to1)), none, some (.own (.dict ld1_4)), some (.fz (.int 3)), none]
theorem lstep1_3 : eqR (dTurn (gVar 9) lcBody (.int 3) ⟨ls1_3 (some (.fz (.int 0))), none⟩) (ls1_4 (some (.fz (.int 0)))) = true := by decide +kernel
def ld1_5 : List (PyData × PyData) := tb [([-1], 1), ([1], 0)]
def ls1_5 (e : Option Sl) : List (Option Sl) := [some (.fz (.int 1)), e, some (.fz (.list rw1)), some (.fz tn1), some (.fz (.int 0)), none, some (.own (.dict to1)), none, some (.own (.dict ld1_5)), some (.fz (.int 4)), none]
theorem lstep1_4 : eqR (dTurn (gVar 9) lcBody (.int 4) ⟨ls1_4 (some (.fz (.int 0))), none⟩) (ls1_5 (some (.fz (.int 0)))) = true := by decide +kernel
def ld1_6 : List (PyData × PyData) := tb [([-1], 0), ([1], 1)]
def ls1_6 (e : Option Sl) : List (Option Sl) := [some (.fz (.int 1)), e, some (.fz (.list rw1)), some (.fz tn1), some (.fz (.int 0)), none, some (.own (.dict to1)), none, some (.own (.dict ld1_6)), some (.fz (.int 5)), none]
theorem lstep1_5 : eqR (dTurn (gVar 9) lcBody (.int 5) ⟨ls1_5 (some (.fz (.int 0))), none⟩) (ls1_6 (some (.fz (.int 0)))) = true := by decide +kernel
def ld1_7 : List (PyData × PyData) := tb [([-1], 1), ([1], 0)]
def ls1_7 (e : Option Sl) : List (Option Sl) := [some (.fz (.int 1)), e, some (.fz (.list rw1)), some (.fz tn1), some (.fz (.int 0)), none, some (.own (.dict to1)), none, some (.own (.dict ld1_7)), some (.fz (.int 6)), none]
theorem lstep1_6 : eqR (dTurn (gVar 9) lcBody (.int 6) ⟨ls1_6 (some (.fz (.int 0))), none⟩) (ls1_7 (some (.fz (.int 0)))) = true := by decide +kernel
def ld1_8 : List (PyData × PyData) := tb [([-1], 0), ([1], 1)]
def ls1_8 (e : Option Sl) : List (Option Sl) := [some (.fz (.int 1)), e, some (.fz (.list rw1)), some (.fz tn1), some (.fz (.int 0)), none, some (.own (.dict to1)), none, some (.own (.dict ld1_8)), some (.fz (.int 7)), none]
theorem lstep1_7 : eqR (dTurn (gVar 9) lcBody (.int 7) ⟨ls1_7 (some (.fz (.int 0))), none⟩) (ls1_8 (some (.fz (.int 0)))) = true := by decide +kernel
def ld1_9 : List (PyData × PyData) := tb [([-1], 1), ([1], 0)]
def ls1_9 (e : Option Sl) : List (Option Sl) := [some (.fz (.int 1)), e, some (.fz (.list rw1)), some (.fz tn1), some (.fz (.int 0)), none, some (.own (.dict to1)), none, some (.own (.dict ld1_9)), some (.fz (.int 8)), none]
theorem lstep1_8 : eqR (dTurn (gVar 9) lcBody (.int 8) ⟨ls1_8 (some (.fz (.int 0))), none⟩) (ls1_9 (some (.fz (.int 0)))) = true := by decide +kernel
def ld1_10 : List (PyData × PyData) := tb [([-1], 0), ([1], 1)]
def ls1_10 (e : Option Sl) : List (Option Sl) := [some (.fz (.int 1)), e, some (.fz (.list rw1)), some (.fz tn1), some (.fz (.int 0)), none, some (.own (.dict to1)), none, some (.own (.dict ld1_10)), some (.fz (.int 9)), none]
theorem lstep1_9 : eqR (dTurn (gVar 9) lcBody (.int 9) ⟨ls1_9 (some (.fz (.int 0))), none⟩) (ls1_10 (some (.fz (.int 0)))) = true := by decide +kernel
def ld1_11 : List (PyData × PyData) := tb [([-1], 1), ([1], 0)]
def ls1_11 (e : Option Sl) : List (Option Sl) := [some (.fz (.int 1)), e, some (.fz (.list rw1)), some (.fz tn1), some (.fz (.int 0)), none, some (.own (.dict to1)), none, some (.own (.dict ld1_11)), some (.fz (.int 10)), none]
theorem lstep1_10 : eqR (dTurn (gVar 9) lcBody (.int 10) ⟨ls1_10 (some (.fz (.int 0))), none⟩) (ls1_11 (some (.fz (.int 0)))) = true := by decide +kernel
def ld1_12 : List (PyData × PyData) := tb [([-1], 0), ([1], 1)]
def ls1_12 (e : Option Sl) : List (Option Sl) := [some (.fz (.int 1)), e, some (.fz (.list rw1)), some (.fz tn1), some (.fz (.int 0)), none, some (.own (.dict to1)), none, some (.own (.dict ld1_12)), some (.fz (.int 11)), none]
theorem lstep1_11 : eqR (dTurn (gVar 9) lcBody (.int 11) ⟨ls1_11 (some (.fz (.int 0))), none⟩) (ls1_12 (some (.fz (.int 0)))) = true := by decide +kernel
theorem llp1_0 (l : List PyData) (e : Option Sl) (p : Option PotSt) : ∃ e', dForL (gVar 9) lcBody (.int 0 :: l) ⟨ls1_0 e, p⟩ = dForL (gVar 9) lcBody l ⟨ls1_1 e', p⟩ :=
  turn_at (i := 1) (some (.fz (.int 0))) (fun p => rd_turn rg_var rel_lcBody _) (fun _ => rfl) (fun _ => rfl) (Nat.le_of_ble_eq_true rfl) lstep1_0 l e p
theorem llp1_1 (l : List PyData) (e : Option Sl) (p : Option PotSt) : ∃ e', dForL (gVar 9) lcBody (.int 1 :: l) ⟨ls1_1 e, p⟩ = dForL (gVar 9) lcBody l ⟨ls1_2 e', p⟩ :=
  turn_at (i := 1) (some (.fz (.int 0))) (fun p => rd_turn rg_var rel_lcBody _) (fun _ => rfl) (fun _ => rfl) (Nat.le_of_ble_eq_true rfl) lstep1_1 l e p
theorem llp1_2 (l : List PyData) (e : Option Sl) (p : Option PotSt) : ∃ e', dForL (gVar 9) lcBody (.int 2 :: l) ⟨ls1_2 e, p⟩ = dForL (gVar 9) lcBody l ⟨ls1_3 e', p⟩ :=
  turn_at (i := 1) (some (.fz (.int 0))) (fun p => rd_turn rg_var rel_lcBody _) (fun _ => rfl) (fun _ => rfl) (Nat.le_of_ble_eq_true rfl) lstep1_2 l e p
theorem llp1_3 (l : List PyData) (e : Option Sl) (p : Option PotSt) : ∃ e', dForL (gVar 9) lcBody (.int 3 :: l) ⟨ls1_3 e, p⟩ = dForL (gVar 9) lcBody l ⟨ls1_4 e', p⟩ :=
  turn_at (i := 1) (some (.fz (.int 0))) (fun p => rd_turn rg_var rel_lcBody _) (fun _ => rfl) (fun _ => rfl) (Nat.le_of_ble_eq_true rfl) lstep1_3 l e p
theorem llp1_4 (l : List PyData) (e : Option Sl) (p : Option PotSt) : ∃ e', dForL (gVar 9) lcBody (.int 4 :: l) ⟨ls1_4 e, p⟩ = dForL (gVar 9) lcBody l ⟨ls1_5 e', p⟩ :=
  turn_at (i := 1) (some (.fz (.int 0))) (fun p => rd_turn rg_var rel_lcBody _) (fun _ => rfl) (fun _ => rfl) (Nat.le_of_ble_eq_true rfl) lstep1_4 l e p
theorem llp1_5 (l : List PyData) (e : Option Sl) (p : Option PotSt) : ∃ e', dForL (gVar 9) lcBody (.int 5 :: l) ⟨ls1_5 e, p⟩ = dForL (gVar 9) lcBody l ⟨ls1_6 e', p⟩ :=
  turn_at (i := 1) (some (.fz (.int 0))) (fun p => rd_turn rg_var rel_lcBody _) (fun _ => rfl) (fun _ => rfl) (Nat.le_of_ble_eq_true rfl) lstep1_5 l e p
theorem llp1_6 (l : List PyData) (e : Option Sl) (p : Option PotSt) : ∃ e', dForL (gVar 9) lcBody (.int 6 :: l) ⟨ls1_6 e, p⟩ = dForL (gVar 9) lcBody l ⟨ls1_7 e', p⟩ :=
  turn_at (i := 1) (some (.fz (.int 0))) (fun p => rd_turn rg_var rel_lcBody _) (fun _ => rfl) (fun _ => rfl) (Nat.le_of_ble_eq_true rfl) lstep1_6 l e p
theorem llp1_7 (l : List PyData) (e : Option Sl) (p : Option PotSt) : ∃ e', dForL (gVar 9) lcBody (.int 7 :: l) ⟨ls1_7 e, p⟩ = dForL (gVar 9) lcBody l ⟨ls1_8 e', p⟩ :=
  turn_at (i := 1) (some (.fz (.int 0))) (fun p => rd_turn rg_var rel_lcBody _) (fun _ => rfl) (fun _ => rfl) (Nat.le_of_ble_eq_true rfl) lstep1_7 l e p
theorem llp1_8 (l : List PyData) (e : Option Sl) (p : Option PotSt) : ∃ e', dForL (gVar 9) lcBody (.int 8 :: l) ⟨ls1_8 e, p⟩ = dForL (gVar 9) lcBody l ⟨ls1_9 e', p⟩ :=
  turn_at (i := 1) (some (.fz (.int 0))) (fun p => rd_turn rg_var rel_lcBody _) (fun _ => rfl) (fun _ => rfl) (Nat.le_of_ble_eq_true rfl) lstep1_8 l e p
theorem llp1_9 (l : List PyData) (e : Option Sl) (p : Option PotSt) : ∃ e', dForL (gVar 9) lcBody (.int 9 :: l) ⟨ls1_9 e, p⟩ = dForL (gVar 9) lcBody l ⟨ls1_10 e', p⟩ :=
  turn_at (i := 1) (some (.fz (.int 0))) (fun p => rd_turn rg_var rel_lcBody _) (fun _ => rfl) (fun _ => rfl) (Nat.le_of_ble_eq_true rfl) lstep1_9 l e p
theorem llp1_10 (l : List PyData) (e : Option Sl) (p : Option PotSt) : ∃ e', dForL (gVar 9) lcBody (.int 10 :: l) ⟨ls1_10 e, p⟩ = dForL (gVar 9) lcBody l ⟨ls1_11 e', p⟩ :=
  turn_at (i := 1) (some (.fz (.int 0))) (fun p => rd_turn rg_var rel_lcBody _) (fun _ => rfl) (fun _ => rfl) (Nat.le_of_ble_eq_true rfl) lstep1_10 l e p
theorem llp1_11 (l : List PyData) (e : Option Sl) (p : Option PotSt) : ∃ e', dForL (gVar 9) lcBody (.int 11 :: l) ⟨ls1_11 e, p⟩ = dForL (gVar 9) lcBody l ⟨ls1_12 e', p⟩ :=
  turn_at (i := 1) (some (.fz (.int 0))) (fun p => rd_turn rg_var rel_lcBody _) (fun _ => rfl) (fun _ => rfl) (Nat.le_of_ble_eq_true rfl) lstep1_11 l e p
theorem lpre1_0 : eqR (lcPre ⟨envOf 11 [.d (.int 1), .d (.int 0)], none⟩) (ls1_0 (some (.fz (.int 0)))) = true := by decide +kernel
theorem lawc1_0 (p : Option PotSt) : D__law_counts [.d (.int 1), .d (.int 0)] p = some (.fr (.dict ld1_0), p) := by
  have hl : dForL (gVar 9) lcBody (rangeD 0 1 0) ⟨ls1_0 (some (.fz (.int 0))), p⟩ = some (.nx, ⟨ls1_0 (some (.fz (.int 0))), p⟩) := by
    rw [show rangeD 0 1 0 = [] from rfl]; rfl
  exact lawc_of lpre1_0 (lcEnd_ok (m := 0) rfl rfl hl rfl) rfl
theorem lpre1_1 : eqR (lcPre ⟨envOf 11 [.d (.int 1), .d (.int 1)], none⟩) (ls1_0 (some (.fz (.int 1)))) = true := by decide +kernel
theorem lawc1_1 (p : Option PotSt) : D__law_counts [.d (.int 1), .d (.int 1)] p = some (.fr (.dict ld1_1), p) := by
  obtain ⟨e0, l0⟩ := llp1_0 [] (some (.fz (.int 1))) p
  have hl : dForL (gVar 9) lcBody (rangeD 0 1 1) ⟨ls1_0 (some (.fz (.int 1))), p⟩ = some (.nx, ⟨ls1_1 e0, p⟩) := by
    rw [show rangeD 0 1 1 = [.int 0] from rfl, l0]; rfl
  exact lawc_of lpre1_1 (lcEnd_ok (m := 1) rfl rfl hl rfl) rfl
theorem lpre1_2 : eqR (lcPre ⟨envOf 11 [.d (.int 1), .d (.int 2)], none⟩) (ls1_0 (some (.fz (.int 2)))) = true := by decide +kernel
theorem lawc1_2 (p : Option PotSt) : D__law_counts [.d (.int 1), .d (.int 2)] p = some (.fr (.dict ld1_2), p) := by
  obtain ⟨e0, l0⟩ := llp1_0 [.int 1] (some (.fz (.int 2))) p
  obtain ⟨e1, l1⟩ := llp1_1 [] e0 p
  have hl : dForL (gVar 9) lcBody (rangeD 0 1 2) ⟨ls1_0 (some (.fz (.int 2))), p⟩ = some (.nx, ⟨ls1_2 e1, p⟩) := by
    rw [show rangeD 0 1 2 = [.int 0, .int 1] from rfl, l0, l1]; rfl
  exact lawc_of lpre1_2 (lcEnd_ok (m := 2) rfl rfl hl rfl) rfl
theorem lpre1_3 : eqR (lcPre ⟨envOf 11 [.d (.int 1), .d (.int 3)], none⟩) (ls1_0 (some (.fz (.int 3)))) = true := by decide +kernel
theorem lawc1_3 (p : Option PotSt) : D__law_counts [.d (.int 1), .d (.int 3)] p = some (.fr (.dict ld1_3), p) := by
  obtain ⟨e0, l0⟩ := llp1_0 [.int 1, .int 2] (some (.fz (.int 3))) p
  obtain ⟨e1, l1⟩ := llp1_1 [.int 2] e0 p
  obtain ⟨e2, l2⟩ := llp1_2 [] e1 p
  have hl : dForL (gVar 9) lcBody (rangeD 0 1 3) ⟨ls1_0 (some (.fz (.int 3))), p⟩ = some (.nx, ⟨ls1_3 e2, p⟩) := by
    rw [show rangeD 0 1 3 = [.int 0, .int 1, .int 2] from rfl, l0, l1, l2]; rfl
  exact lawc_of lpre1_3 (lcEnd_ok (m := 3) rfl rfl hl rfl) rfl
theorem lpre1_4 : eqR (lcPre ⟨envOf 11 [.d (.int 1), .d (.int 4)], none⟩) (ls1_0 (some (.fz (.int 4)))) = true := by decide +kernel
theorem lawc1_4 (p : Option PotSt) : D__law_counts [.d (.int 1), .d (.int 4)] p = some (.fr (.dict ld1_4), p) := by
  obtain ⟨e0, l0⟩ := llp1_0 [.int 1, .int 2, .int 3] (some (.fz (.int 4))) p
  obtain ⟨e1, l1⟩ := llp1_1 [.int 2, .int 3] e0 p
  obtain ⟨e2, l2⟩ := llp1_2 [.int 3] e1 p
  obtain ⟨e3, l3⟩ := llp1_3 [] e2 p
  have hl : dForL (gVar 9) lcBody (rangeD 0 1 4) ⟨ls1_0 (some (.fz (.int 4))), p⟩ = some (.nx, ⟨ls1_4 e3, p⟩) := by
    rw [show rangeD 0 1 4 = [.int 0, .int 1, .int 2, .int 3] from rfl, l0, l1, l2, l3]; rfl
  exact lawc_of lpre1_4 (lcEnd_ok (m := 4) rfl rfl hl rfl) rfl
theorem lpre1_5 : eqR (lcPre ⟨envOf 11 [.d (.int 1), .d (.int 5)], none⟩) (ls1_0 (some (.fz (.int 5)))) = true := by decide +kernel
theorem lawc1_5 (p : Option PotSt) : D__law_counts [.d (.int 1), .d (.int 5)] p = some (.fr (.dict ld1_5), p) := by
  obtain ⟨e0, l0⟩ := llp1_0 [.int 1, .int 2, .int 3, .int 4] (some (.fz (.int 5))) p
  obtain ⟨e1, l1⟩ := llp1_1 [.int 2, .int 3, .int 4] e0 p
  obtain ⟨e2, l2⟩ := llp1_2 [.int 3, .int 4] e1 p
  obtain ⟨e3, l3⟩ := llp1_3 [.int 4] e2 p
  obtain ⟨e4, l4⟩ := llp1_4 [] e3 p
  have hl : dForL (gVar 9) lcBody (rangeD 0 1 5) ⟨ls1_0 (some (.fz (.int 5))), p⟩ = some (.nx, ⟨ls1_5 e4, p⟩) := by
    rw [show rangeD 0 1 5 = [.int 0, .int 1, .int 2, .int 3, .int 4] from rfl, l0, l1, l2, l3, l4]; rfl
  exact lawc_of lpre1_5 (lcEnd_ok (m := 5) rfl rfl hl rfl) rfl
theorem lpre1_6 : eqR (lcPre ⟨envOf 11 [.d (.int 1), .d (.int 6)], none⟩) (ls1_0 (some (.fz (.int 6)))) = true := by decide +kernel
theorem lawc1_6 (p : Option PotSt) : D__law_counts [.d (.int 1), .d (.int 6)] p = some (.fr (.dict ld1_6), p) := by
  obtain ⟨e0, l0⟩ := llp1_0 [.int 1, .int 2, .int 3, .int 4, .int 5] (some (.fz (.int 6))) p
  obtain ⟨e1, l1⟩ := llp1_1 [.int 2, .int 3, .int 4, .int 5] e0 p
  obtain ⟨e2, l2⟩ := llp1_2 [.int 3, .int 4, .int 5] e1 p
  obtain ⟨e3, l3⟩ := llp1_3 [.int 4, .int 5] e2 p
  obtain ⟨e4, l4⟩ := llp1_4 [.int 5] e3 p
  obtain ⟨e5, l5⟩ := llp1_5 [] e4 p
  have hl : dForL (gVar 9) lcBody (rangeD 0 1 6) ⟨ls1_0 (some (.fz (.int 6))), p⟩ = some (.nx, ⟨ls1_6 e5, p⟩) := by
    rw [show rangeD 0 1 6 = [.int 0, .int 1, .int 2, .int 3, .int 4, .int 5] from rfl, l0, l1, l2, l3, l4, l5]; rfl
  exact lawc_of lpre1_6 (lcEnd_ok (m := 6) rfl rfl hl rfl) rfl
theorem lpre1_7 : eqR (lcPre ⟨envOf 11 [.d (.int 1), .d (.int 7)], none⟩) (ls1_0 (some (.fz (.int 7)))) = true := by decide +kernel
theorem lawc1_7 (p : Option PotSt) : D__law_counts [.d (.int 1), .d (.int 7)] p = some (.fr (.dict ld1_7), p) := by
  obtain ⟨e0, l0⟩ := llp1_0 [.int 1, .int 2, .int 3, .int 4, .int 5, .int 6] (some (.fz (.int 7))) p
  obtain ⟨e1, l1⟩ := llp1_1 [.int 2, .int 3, .int 4, .int 5, .int 6] e0 p
  obtain ⟨e2, l2⟩ := llp1_2 [.int 3, .int 4, .int 5, .int 6] e1 p
  obtain ⟨e3, l3⟩ := llp1_3 [.int 4, .int 5, .int 6] e2 p
  obtain ⟨e4, l4⟩ := llp1_4 [.int 5, .int 6] e3 p
  obtain ⟨e5, l5⟩ := llp1_5 [.int 6] e4 p
  obtain ⟨e6, l6⟩ := llp1_6 [] e5 p
  have hl : dForL (gVar 9) lcBody (rangeD 0 1 7) ⟨ls1_0 (some (.fz (.int 7))), p⟩ = some (.nx, ⟨ls1_7 e6, p⟩) := by
    rw [show rangeD 0 1 7 = [.int 0, .int 1, .int 2, .int 3, .int 4, .int 5, .int 6] from rfl, l0, l1, l2, l3, l4, l5, l6]; rfl
  exact lawc_of lpre1_7 (lcEnd_ok (m := 7) rfl rfl hl rfl) rfl
theorem lpre1_8 : eqR (lcPre ⟨envOf 11 [.d (.int 1), .d (.int 8)], none⟩) (ls1_0 (some (.fz (.int 8)))) = true := by decide +kernel
theorem lawc1_8 (p : Option PotSt) : D__law_counts [.d (.int 1), .d (.int 8)] p = some (.fr (.dict ld1_8), p) := by
  obtain ⟨e0, l0⟩ := llp1_0 [.int 1, .int 2, .int 3, .int 4, .int 5, .int 6, .int 7] (some (.fz (.int 8))) p
  obtain ⟨e1, l1⟩ := llp1_1 [.int 2, .int 3, .int 4, .int 5, .int 6, .int 7] e0 p
  obtain ⟨e2, l2⟩ := llp1_2 [.int 3, .int 4, .int 5, .int 6, .int 7] e1 p
  obtain ⟨e3, l3⟩ := llp1_3 [.int 4, .int 5, .int 6, .int 7] e2 p
  obtain ⟨e4, l4⟩ := llp1_4 [.int 5, .int 6, .int 7] e3 p
  obtain ⟨e5, l5⟩ := llp1_5 [.int 6, .int 7] e4 p
  obtain ⟨e6, l6⟩ := llp1_6 [.int 7] e5 p
  obtain ⟨e7, l7⟩ := llp1_7 [] e6 p
  have hl : dForL (gVar 9) lcBody (rangeD 0 1 8) ⟨ls1_0 (some (.fz (.int 8))), p⟩ = some (.nx, ⟨ls1_8 e7, p⟩) := by
    rw [show rangeD 0 1 8 = [.int 0, .int 1, .int 2, .int 3, .int 4, .int 5, .int 6, .int 7] from rfl, l0, l1, l2, l3, l4, l5, l6, l7]; rfl
  exact lawc_of lpre1_8 (lcEnd_ok (m := 8) rfl rfl hl rfl) rfl
theorem lpre1_9 : eqR (lcPre ⟨envOf 11 [.d (.int 1), .d (.int 9)], none⟩) (ls1_0 (some (.fz (.int 9)))) = true := by decide +kernel
theorem lawc1_9 (p : Option PotSt) : D__law_counts [.d (.int 1), .d (.int 9)] p = some (.fr (.dict ld1_9), p) := by
  obtain ⟨e0, l0⟩ := llp1_0 [.int 1, .int 2, .int 3, .int 4, .int 5, .int 6, .int 7, .int 8] (some (.fz (.int 9))) p
  obtain ⟨e1, l1⟩ := llp1_1 [.int 2, .int 3, .int 4, .int 5, .int 6, .int 7, .int 8] e0 p
  obtain ⟨e2, l2⟩ := llp1_2 [.int 3, .int 4, .int 5, .int 6, .int 7, .int 8] e1 p
  obtain ⟨e3, l3⟩ := llp1_3 [.int 4, .int 5, .int 6, .int 7, .int 8] e2 p
  obtain ⟨e4, l4⟩ := llp1_4 [.int 5, .int 6, .int 7, .int 8] e3 p
  obtain ⟨e5, l5⟩ := llp1_5 [.int 6, .int 7, .int 8] e4 p
  obtain ⟨e6, l6⟩ := llp1_6 [.int 7, .int 8] e5 p
  obtain ⟨e7, l7⟩ := llp1_7 [.int 8] e6 p
  obtain ⟨e8, l8⟩ := llp1_8 [] e7 p
  have hl : dForL (gVar 9) lcBody (rangeD 0 1 9) ⟨ls1_0 (some (.fz (.int 9))), p⟩ = some (.nx, ⟨ls1_9 e8, p⟩) := by
    rw [show rangeD 0 1 9 = [.int 0, .int 1, .int 2, .int 3, .int 4, .int 5, .int 6, .int 7, .int 8] from rfl, l0, l1, l2, l3, l4, l5, l6, l7, l8]; rfl
  exact lawc_of lpre1_9 (lcEnd_ok (m := 9) rfl rfl hl rfl) rfl
theorem lpre1_10 : eqR (lcPre ⟨envOf 11 [.d (.int 1), .d (.int 10)], none⟩) (ls1_0 (some (.fz (.int 10)))) = true := by decide +kernel
theorem lawc1_10 (p : Option PotSt) : D__law_counts [.d (.int 1), .d (.int 10)] p = some (.fr (.dict ld1_10), p) := by
  obtain ⟨e0, l0⟩ := llp1_0 [.int 1, .int 2, .int 3, .int 4, .int 5, .int 6, .int 7, .int 8, .int 9] (some (.fz (.int 10))) p
  obtain ⟨e1, l1⟩ := llp1_1 [.int 2, .int 3, .int 4, .int 5, .int 6, .int 7, .int 8, .int 9] e0 p
  obtain ⟨e2, l2⟩ := llp1_2 [.int 3, .int 4, .int 5, .int 6, .int 7, .int 8, .int 9] e1 p
  obtain ⟨e3, l3⟩ := llp1_3 [.int 4, .int 5, .int 6, .int 7, .int 8, .int 9] e2 p
  obtain ⟨e4, l4⟩ := llp1_4 [.int 5, .int 6, .int 7, .int 8, .int 9] e3 p
  obtain ⟨e5, l5⟩ := llp1_5 [.int 6, .int 7, .int 8, .int 9] e4 p
  obtain ⟨e6, l6⟩ := llp1_6 [.int 7, .int 8, .int 9] e5 p
  obtain ⟨e7, l7⟩ := llp1_7 [.int 8, .int 9] e6 p
  obtain ⟨e8, l8⟩ := llp1_8 [.int 9] e7 p
  obtain ⟨e9, l9⟩ := llp1_9 [] e8 p
  have hl : dForL (gVar 9) lcBody (rangeD 0 1 10) ⟨ls1_0 (some (.fz (.int 10))), p⟩ = some (.nx, ⟨ls1_10 e9, p⟩) := by
    rw [show rangeD 0 1 10 = [.int 0, .int 1, .int 2, .int 3, .int 4, .int 5, .int 6, .int 7, .int 8, .int 9] from rfl, l0, l1, l2, l3, l4, l5, l6, l7, l8, l9]; rfl
  exact lawc_of lpre1_10 (lcEnd_ok (m := 10) rfl rfl hl rfl) rfl
theorem lpre1_11 : eqR (lcPre ⟨envOf 11 [.d (.int 1), .d (.int 11)], none⟩) (ls1_0 (some (.fz (.int 11)))) = true := by decide +kernel
theorem lawc1_11 (p : Option PotSt) : D__law_counts [.d (.int 1), .d (.int 11)] p = some (.fr (.dict ld1_11), p) := by
  obtain ⟨e0, l0⟩ := llp1_0 [.int 1, .int 2, .int 3, .int 4, .int 5, .int 6, .int 7, .int 8, .int 9, .int 10] (some (.fz (.int 11))) p
  obtain ⟨e1, l1⟩ := llp1_1 [.int 2, .int 3, .int 4, .int 5, .int 6, .int 7, .int 8, .int 9, .int 10] e0 p
  obtain ⟨e2, l2⟩ := llp1_2 [.int 3, .int 4, .int 5, .int 6, .int 7, .int 8, .int 9, .int 10] e1 p
  obtain ⟨e3, l3⟩ := llp1_3 [.int 4, .int 5, .int 6, .int 7, .int 8, .int 9, .int 10] e2 p
  obtain ⟨e4, l4⟩ := llp1_4 [.int 5, .int 6, .int 7, .int 8, .int 9, .int 10] e3 p
  obtain ⟨e5, l5⟩ := llp1_5 [.int 6, .int 7, .int 8, .int 9, .int 10] e4 p
  obtain ⟨e6, l6⟩ := llp1_6 [.int 7, .int 8, .int 9, .int 10] e5 p
  obtain ⟨e7, l7⟩ := llp1_7 [.int 8, .int 9, .int 10] e6 p
  obtain ⟨e8, l8⟩ := llp1_8 [.int 9, .int 10] e7 p
  obtain ⟨e9, l9⟩ := llp1_9 [.int 10] e8 p
  obtain ⟨e10, l10⟩ := llp1_10 [] e9 p
  have hl : dForL (gVar 9) lcBody (rangeD 0 1 11) ⟨ls1_0 (some (.fz (.int 11))), p⟩ = some (.nx, ⟨ls1_11 e10, p⟩) := by
    rw [show rangeD 0 1 11 = [.int 0, .int 1, .int 2, .int 3, .int 4, .int 5, .int 6, .int 7, .int 8, .int 9, .int 10] from rfl, l0, l1, l2, l3, l4, l5, l6, l7, l8, l9, l10]; rfl
  exact lawc_of lpre1_11 (lcEnd_ok (m := 11) rfl rfl hl rfl) rfl
theorem lpre1_12 : eqR (lcPre ⟨envOf 11 [.d (.int 1), .d (.int 12)], none⟩) (ls1_0 (some (.fz (.int 12)))) = true := by decide +kernel
theorem lawc1_12 (p : Option PotSt) : D__law_counts [.d (.int 1), .d (.int 12)] p = some (.fr (.dict ld1_12), p) := by
  obtain ⟨e0, l0⟩ := llp1_0 [.int 1, .int 2, .int 3, .int 4, .int 5, .int 6, .int 7, .int 8, .int 9, .int 10, .int 11] (some (.fz (.int 12))) p
  obtain ⟨e1, l1⟩ := llp1_1 [.int 2, .int 3, .int 4, .int 5, .int 6, .int 7, .int 8, .int 9, .int 10, .int 11] e0 p
  obtain ⟨e2, l2⟩ := llp1_2 [.int 3, .int 4, .int 5, .int 6, .int 7, .int 8, .int 9, .int 10, .int 11] e1 p
  obtain ⟨e3, l3⟩ := llp1_3 [.int 4, .int 5, .int 6, .int 7, .int 8, .int 9, .int 10, .int 11] e2 p
  obtain ⟨e4, l4⟩ := llp1_4 [.int 5, .int 6, .int 7, .int 8, .int 9, .int 10, .int 11] e3 p
  obtain ⟨e5, l5⟩ := llp1_5 [.int 6, .int 7, .int 8, .int 9, .int 10, .int 11] e4 p
  obtain ⟨e6, l6⟩ := llp1_6 [.int 7, .int 8, .int 9, .int 10, .int 11] e5 p
  obtain ⟨e7, l7⟩ := llp1_7 [.int 8, .int 9, .int 10, .int 11] e6 p
  obtain ⟨e8, l8⟩ := llp1_8 [.int 9, .int 10, .int 11] e7 p
  obtain ⟨e9, l9⟩ := llp1_9 [.int 10, .int 11] e8 p
  obtain ⟨e10, l10⟩ := llp1_10 [.int 11] e9 p
  obtain ⟨e11, l11⟩ := llp1_11 [] e10 p
  have hl : dForL (gVar 9) lcBody (rangeD 0 1 12) ⟨ls1_0 (some (.fz (.int 12))), p⟩ = some (.nx, ⟨ls1_12 e11, p⟩) := by
    rw [show rangeD 0 1 12 = [.int 0, .int 1, .int 2, .int 3, .int 4, .int 5, .int 6, .int 7, .int 8, .int 9, .int 10, .int 11] from rfl, l0, l1, l2, l3, l4, l5, l6, l7, l8, l9, l10, l11]; rfl
  exact lawc_of lpre1_12 (lcEnd_ok (m := 12) rfl rfl hl rfl) rfl
def rw2 : List PyData := [tr [-2, -1], tr [-2, 1], tr [-1, -2], tr [-1, 2], tr [1, -2], tr [1, 2], tr [2, -1], tr [2, 1]]
def to2 : List (PyData × PyData) := [(tr [-2, -1], .list [tr [2, -1], tr [1, 2], tr [-2, 1]]), (tr [-2, 1], .list [tr [2, 1], tr [-1, 2], tr [-2, -1]]), (tr [-1, -2], .list [tr [1, -2], tr [2, 1], tr [-1, 2]]), (tr [-1, 2], .list [tr [1, 2], tr [-2, 1], tr [-1, -2]]), (tr [1, -2], .list [tr [-1, -2], tr [2, -1], tr [1, 2]]), (tr [1, 2], .list [tr [-1, 2], tr [-2, -1], tr [1, -2]]), (tr [2, -1], .list [tr [-2, -1], tr [1, -2], tr [2, 1]]), (tr [2, 1], .list [tr [-2, 1], tr [-1, -2], tr [2, -1]])]
def ld2_0 : List (PyData × PyData) := tb [([-2, -1], 0), ([-2, 1], 0), ([-1, -2], 0), ([-1, 2], 0), ([1, -2], 0), ([1, 2], 1), ([2, -1], 0), ([2, 1], 0)]
def ls2_0 (e : Option Sl) : List (Option Sl) := [some (.fz (.int 2)), e, some (.fz (.list rw2)), some (.fz tn2), some (.fz (.int 1)), none, some (.own (.dict to2)), none, some (.own (.dict ld2_0)), none, none]
def ld2_1 : List (PyData × PyData) := tb [([-2, -1], 1), ([-2, 1], 0), ([-1, -2], 0), ([-1, 2], 1), ([1, -2], 1), ([1, 2], 0), ([2, -1], 0), ([2, 1], 0)]
def ls2_1 (e : Option Sl) : List (Option Sl) := [some (.fz (.int 2)), e, some (.fz (.list rw2)), some (.fz tn2), some (.fz (.int 1)), none, some (.own (.dict to2)), none, some (.own (.dict ld2_1)), some (.fz (.int 0)), none]
theorem lstep2_0 : eqR (dTurn (gVar 9) lcBody (.int 0) ⟨ls2_0 (some (.fz (.int 0))), none⟩) (ls2_1 (some (.fz (.int 0)))) = true := by decide +kernel
def ld2_2 : List (PyData × PyData) := tb [([-2, -1], 0), ([-2, 1], 2), ([-1, -2], 2), ([-1, 2], 0), ([1, -2], 0), ([1, 2], 3), ([2, -1], 2), ([2, 1], 0)]
def ls2_2 (e : Option Sl) : List (Option Sl) := [some (.fz (.int 2)), e, some (.fz (.list rw2)), some (.fz tn2), some (.fz (.int 1)), none, some (.own (.dict to2)), none, some (.own (.dict ld2_2)), some (.fz (.int 1)), none]
theorem lstep2_1 : eqR (dTurn (gVar 9) lcBody (.int 1) ⟨ls2_1 (some (.fz (.int 0))), none⟩) (ls2_2 (some (.fz (.int 0)))) = true := by decide +kernel
def ld2_3 : List (PyData × PyData) := tb [([-2, -1], 7), ([-2, 1], 0), ([-1, -2], 0), ([-1, 2], 7), ([1, -2], 7), ([1, 2], 0), ([2, -1], 0), ([2, 1], 6)]
def ls2_3 (e : Option Sl) : List (Option Sl) := [some (.fz (.int 2)), e, some (.fz (.list rw2)), some (.fz tn2), some (.fz (.int 1)), none, some (.own (.dict to2)), none, some (.own (.dict ld2_3)), some (.fz (.int 2)), none]
theorem lstep2_2 : eqR (dTurn (gVar 9) lcBody (.int 2) ⟨ls2_2 (some (.fz (.int 0))), none⟩) (ls2_3 (some (.fz (.int 0)))) = true := by decide +kernel
def ld2_4 : List (PyData × PyData) := tb [([-2, -1], 0), ([-2, 1], 20), ([-1, -2], 20), ([-1, 2], 0), ([1, -2], 0), ([1, 2], 21), ([2, -1], 20), ([2, 1], 0)]
def ls2_4 (e : Option Sl) : List (Option Sl) := [some (.fz (.int 2)), e, some (.fz (.list rw2)), some (.fz tn2), some (.fz (.int 1)), none, some (.own (.dict to2)), none, some (.own (.dict ld2_4)), some (.fz (.int 3)), none]
theorem lstep2_3 : eqR (dTurn (gVar 9) lcBody (.int 3) ⟨ls2_3 (some (.fz (.int 0))), none⟩) (ls2_4 (some (.fz (.int 0)))) = true := by decide +kernel
def ld2_5 : List (PyData × PyData) := tb [([-2, -1], 61), ([-2, 1], 0), ([-1, -2], 0), ([-1, 2], 61), ([1, -2], 61), ([1, 2], 0), ([2, -1], 0), ([2, 1], 60)]
def ls2_5 (e : Option Sl) : List (Option Sl) := [some (.fz (.int 2)), e, some (.fz (.list rw2)), some (.fz tn2), some (.fz (.int 1)), none, some (.own (.dict to2)), none, some (.own (.dict ld2_5)), some (.fz (.int 4)), none]
theorem lstep2_4 : eqR (dTurn (gVar 9) lcBody (.int 4) ⟨ls2_4 (some (.fz (.int 0))), none⟩) (ls2_5 (some (.fz (.int 0)))) = true := by decide +kernel
def ld2_6 : List (PyData × PyData) := tb [([-2, -1], 0), ([-2, 1], 182), ([-1, -2], 182), ([-1, 2], 0), ([1, -2], 0), ([1, 2], 183), ([2, -1], 182), ([2, 1], 0)]
def ls2_6 (e : Option Sl) : List (Option Sl) := [some (.fz (.int 2)), e, some (.fz (.list rw2)), some (.fz tn2), some (.fz (.int 1)), none, some (.own (.dict to2)), none, some (.own (.dict ld2_6)), some (.fz (.int 5)), none]
theorem lstep2_5 : eqR (dTurn (gVar 9) lcBody (.int 5) ⟨ls2_5 (some (.fz (.int 0))), none⟩) (ls2_6 (some (.fz (.int 0)))) = true := by decide +kernel
def ld2_7 : List (PyData × PyData) := tb [([-2, -1], 547), ([-2, 1], 0), ([-1, -2], 0), ([-1, 2], 547), ([1, -2], 547), ([1, 2], 0), ([2, -1], 0), ([2, 1], 546)]
def ls2_7 (e : Option Sl) : List (Option Sl) := [some (.fz (.int 2)), e, some (.fz (.list rw2)), some (.fz tn2), some (.fz (.int 1)), none, some (.own (.dict to2)), none, some (.own (.dict ld2_7)), some (.fz (.int 6)), none]
theorem lstep2_6 : eqR (dTurn (gVar 9) lcBody (.int 6) ⟨ls2_6 (some (.fz (.int 0))), none⟩) (ls2_7 (some (.fz (.int 0)))) = true := by decide +kernel
def ld2_8 : List (PyData × PyData) := tb [([-2, -1], 0), ([-2, 1], 1640), ([-1, -2], 1640), ([-1, 2], 0), ([1, -2], 0), ([1, 2], 1641), ([2, -1], 1640), ([2, 1], 0)]
def ls2_8 (e : Option Sl) : List (Option Sl) := [some (.fz (.int 2)), e, some (.fz (.list rw2)), some (.fz tn2), some (.fz (.int 1)), none, some (.own (.dict to2)), none, some (.own (.dict ld2_8)), some (.fz (.int 7)), none]
theorem lstep2_7 : eqR (dTurn (gVar 9) lcBody (.int 7) ⟨ls2_7 (some (.fz (.int 0))), none⟩) (ls2_8 (some (.fz (.int 0)))) = true := by decide +kernel
def ld2_9 : List (PyData × PyData) := tb [([-2, -1], 4921), ([-2, 1], 0), ([-1, -2], 0), ([-1, 2], 4921), ([1, -2], 4921), ([1, 2], 0), ([2, -1], 0), ([2, 1], 4920)]
def ls2_9 (e : Option Sl) : List (Option Sl) := [some (.fz (.int 2)), e, some (.fz (.list rw2)), some (.fz tn2), some (.fz (.int 1)), none, some (.own (.dict to2)), none, some (.own (.dict ld2_9)), some (.fz (.int 8)), none]
theorem lstep2_8 : eqR (dTurn (gVar 9) lcBody (.int 8) ⟨ls2_8 (some (.fz (.int 0))), none⟩) (ls2_9 (some (.fz (.int 0)))) = true := by decide +kernel
def ld2_10 : List (PyData × PyData) := tb [([-2, -1], 0), ([-2, 1], 14762), ([-1, -2], 14762), ([-1, 2], 0), ([1, -2], 0), ([1, 2], 14763), ([2, -1], 14762), ([2, 1], 0)]
def ls2_10 (e : Option Sl) : List (Option Sl) := [some (.fz (.int 2)), e, some (.fz (.list rw2)), some (.fz tn2), some (.fz (.int 1)), none, some (.own (.dict to2)), none, some (.own (.dict ld2_10)), some (.fz (.int 9)), none]
theorem lstep2_9 : eqR (dTurn (gVar 9) lcBody (.int 9) ⟨ls2_9 (some (.fz (.int 0))), none⟩) (ls2_10 (some (.fz (.int 0)))) = true := by decide +kernel
def ld2_11 : List (PyData × PyData) := tb [([-2, -1], 44287), ([-2, 1], 0), ([-1, -2], 0), ([-1, 2], 44287), ([1, -2], 44287), ([1, 2], 0), ([2, -1], 0), ([2, 1], 44286)]
def ls2_11 (e : Option Sl) : List (Option Sl) := [some (.fz (.int 2)), e, some (.fz (.list rw2)), some (.fz tn2), some (.fz (.int 1)), none, some (.own (.dict to2)), none, some (.own (.dict ld2_11)), some (.fz (.int 10)), none]
theorem lstep2_10 : eqR (dTurn (gVar 9) lcBody (.int 10) ⟨ls2_10 (some (.fz (.int 0))), none⟩) (ls2_11 (some (.fz (.int 0)))) = true := by decide +kernel
def ld2_12 : List (PyData × PyData) := tb [([-2, -1], 0), ([-2, 1], 132860), ([-1, -2], 132860), ([-1, 2], 0), ([1, -2], 0), ([1, 2], 132861), ([2, -1], 132860), ([2, 1], 0)]
def ls2_12 (e : Option Sl) : List (Option Sl) := [some (.fz (.int 2)), e, some (.fz (.list rw2)), some (.fz tn2), some (.fz (.int 1)), none, some (.own (.dict to2)), none, some (.own (.dict ld2_12)), some (.fz (.int 11)), none]
theorem lstep2_11 : eqR (dTurn (gVar 9) lcBody (.int 11) ⟨ls2_11 (some (.fz (.int 0))), none⟩) (ls2_12 (some (.fz (.int 0)))) = true := by decide +kernel
theorem llp2_0 (l : List PyData) (e : Option Sl) (p : Option PotSt) : ∃ e', dForL (gVar 9) lcBody (.int 0 :: l) ⟨ls2_0 e, p⟩ = dForL (gVar 9) lcBody l ⟨ls2_1 e', p⟩ :=
  turn_at (i := 1) (some (.fz (.int 0))) (fun p => rd_turn rg_var rel_lcBody _) (fun _ => rfl) (fun _ => rfl) (Nat.le_of_ble_eq_true rfl) lstep2_0 l e p
theorem llp2_1 (l : List PyData) (e : Option Sl) (p : Option PotSt) : ∃ e', dForL (gVar 9) lcBody (.int 1 :: l) ⟨ls2_1 e, p⟩ = dForL (gVar 9) lcBody l ⟨ls2_2 e', p⟩ :=
  turn_at (i := 1) (some (.fz (.int 0))) (fun p => rd_turn rg_var rel_lcBody _) (fun _ => rfl) (fun _ => rfl) (Nat.le_of_ble_eq_true rfl) lstep2_1 l e p
theorem llp2_2 (l : List PyData) (e : Option Sl) (p : Option PotSt) : ∃ e', dForL (gVar 9) lcBody (.int 2 :: l) ⟨ls2_2 e, p⟩ = dForL (gVar 9) lcBody l ⟨ls2_3 e', p⟩ :=
  turn_at (i := 1) (some (.fz (.int 0))) (fun p => rd_turn rg_var rel_lcBody _) (fun _ => rfl) (fun _ => rfl) (Nat.le_of_ble_eq_true rfl) lstep2_2 l e p
theorem llp2_3 (l : List PyData) (e : Option Sl) (p : Option PotSt) : ∃ e', dForL (gVar 9) lcBody (.int 3 :: l) ⟨ls2_3 e, p⟩ = dForL (gVar 9) lcBody l ⟨ls2_4 e', p⟩ :=
  turn_at (i := 1) (some (.fz (.int 0))) (fun p => rd_turn rg_var rel_lcBody _) (fun _ => rfl) (fun _ => rfl) (Nat.le_of_ble_eq_true rfl) lstep2_3 l e p
theorem llp2_4 (l : List PyData) (e : Option Sl) (p : Option PotSt) : ∃ e', dForL (gVar 9) lcBody (.int 4 :: l) ⟨ls2_4 e, p⟩ = dForL (gVar 9) lcBody l ⟨ls2_5 e', p⟩ :=
  turn_at (i := 1) (some (.fz (.int 0))) (fun p => rd_turn rg_var rel_lcBody _) (fun _ => rfl) (fun _ => rfl) (Nat.le_of_ble_eq_true rfl) lstep2_4 l e p
theorem llp2_5 (l : List PyData) (e : Option Sl) (p : Option PotSt) : ∃ e', dForL (gVar 9) lcBody (.int 5 :: l) ⟨ls2_5 e, p⟩ = dForL (gVar 9) lcBody l ⟨ls2_6 e', p⟩ :=
  turn_at (i := 1) (some (.fz (.int 0))) (fun p => rd_turn rg_var rel_lcBody _) (fun _ => rfl) (fun _ => rfl) (Nat.le_of_ble_eq_true rfl) lstep2_5 l e p
theorem llp2_6 (l : List PyData) (e : Option Sl) (p : Option PotSt) : ∃ e', dForL (gVar 9) lcBody (.int 6 :: l) ⟨ls2_6 e, p⟩ = dForL (gVar 9) lcBody l ⟨ls2_7 e', p⟩ :=
  turn_at (i := 1) (some (.fz (.int 0))) (fun p => rd_turn rg_var rel_lcBody _) (fun _ => rfl) (fun _ => rfl) (Nat.le_of_ble_eq_true rfl) lstep2_6 l e p
theorem llp2_7 (l : List PyData) (e : Option Sl) (p : Option PotSt) : ∃ e', dForL (gVar 9) lcBody (.int 7 :: l) ⟨ls2_7 e, p⟩ = dForL (gVar 9) lcBody l ⟨ls2_8 e', p⟩ :=
  turn_at (i := 1) (some (.fz (.int 0))) (fun p => rd_turn rg_var rel_lcBody _) (fun _ => rfl) (fun _ => rfl) (Nat.le_of_ble_eq_true rfl) lstep2_7 l e p
theorem llp2_8 (l : List PyData) (e : Option Sl) (p : Option PotSt) : ∃ e', dForL (gVar 9) lcBody (.int 8 :: l) ⟨ls2_8 e, p⟩ = dForL (gVar 9) lcBody l ⟨ls2_9 e', p⟩ :=
  turn_at (i := 1) (some (.fz (.int 0))) (fun p => rd_turn rg_var rel_lcBody _) (fun _ => rfl) (fun _ => rfl) (Nat.le_of_ble_eq_true rfl) lstep2_8 l e p
theorem llp2_9 (l : List PyData) (e : Option Sl) (p : Option PotSt) : ∃ e', dForL (gVar 9) lcBody (.int 9 :: l) ⟨ls2_9 e, p⟩ = dForL (gVar 9) lcBody l ⟨ls2_10 e', p⟩ :=
  turn_at (i := 1) (some (.fz (.int 0))) (fun p => rd_turn rg_var rel_lcBody _) (fun _ => rfl) (fun _ => rfl) (Nat.le_of_ble_eq_true rfl) lstep2_9 l e p
theorem llp2_10 (l : List PyData) (e : Option Sl) (p : Option PotSt) : ∃ e', dForL (gVar 9) lcBody (.int 10 :: l) ⟨ls2_10 e, p⟩ = dForL (gVar 9) lcBody l ⟨ls2_11 e', p⟩ :=
  turn_at (i := 1) (some (.fz (.int 0))) (fun p => rd_turn rg_var rel_lcBody _) (fun _ => rfl) (fun _ => rfl) (Nat.le_of_ble_eq_true rfl) lstep2_10 l e p
theorem llp2_11 (l : List PyData) (e : Option Sl) (p : Option PotSt) : ∃ e', dForL (gVar 9) lcBody (.int 11 :: l) ⟨ls2_11 e, p⟩ = dForL (gVar 9) lcBody l ⟨ls2_12 e', p⟩ :=
  turn_at (i := 1) (some (.fz (.int 0))) (fun p => rd_turn rg_var rel_lcBody _) (fun _ => rfl) (fun _ => rfl) (Nat.le_of_ble_eq_true rfl) lstep2_11 l e p
theorem lpre2_0 : eqR (lcPre ⟨envOf 11 [.d (.int 2), .d (.int 0)], none⟩) (ls2_0 (some (.fz (.int 0)))) = true := by decide +kernel
theorem lawc2_0 (p : Option PotSt) : D__law_counts [.d (.int 2), .d (.int 0)] p = some (.fr (.dict ld2_0), p) := by
  have hl : dForL (gVar 9) lcBody (rangeD 0 1 0) ⟨ls2_0 (some (.fz (.int 0))), p⟩ = some (.nx, ⟨ls2_0 (some (.fz (.int 0))), p⟩) := by
    rw [show rangeD 0 1 0 = [] from rfl]; rfl
  exact lawc_of lpre2_0 (lcEnd_ok (m := 0) rfl rfl hl rfl) rfl
theorem lpre2_1 : eqR (lcPre ⟨envOf 11 [.d (.int 2), .d (.int 1)], none⟩) (ls2_0 (some (.fz (.int 1)))) = true := by decide +kernel
theorem lawc2_1 (p : Option PotSt) : D__law_counts [.d (.int 2), .d (.int 1)] p = some (.fr (.dict ld2_1), p) := by
  obtain ⟨e0, l0⟩ := llp2_0 [] (some (.fz (.int 1))) p
  have hl : dForL (gVar 9) lcBody (rangeD 0 1 1) ⟨ls2_0 (some (.fz (.int 1))), p⟩ = some (.nx, ⟨ls2_1 e0, p⟩) := by
    rw [show rangeD 0 1 1 = [.int 0] from rfl, l0]; rfl
  exact lawc_of lpre2_1 (lcEnd_ok (m := 1) rfl rfl hl rfl) rfl
theorem lpre2_2 : eqR (lcPre ⟨envOf 11 [.d (.int 2), .d (.int 2)], none⟩) (ls2_0 (some (.fz (.int 2)))) = true := by decide +kernel
theorem lawc2_2 (p : Option PotSt) : D__law_counts [.d (.int 2), .d (.int 2)] p = some (.fr (.dict ld2_2), p) := by
  obtain ⟨e0, l0⟩ := llp2_0 [.int 1] (some (.fz (.int 2))) p
  obtain ⟨e1, l1⟩ := llp2_1 [] e0 p
  have hl : dForL (gVar 9) lcBody (rangeD 0 1 2) ⟨ls2_0 (some (.fz (.int 2))), p⟩ = some (.nx, ⟨ls2_2 e1, p⟩) := by
    rw [show rangeD 0 1 2 = [.int 0, .int 1] from rfl, l0, l1]; rfl
  exact lawc_of lpre2_2 (lcEnd_ok (m := 2) rfl rfl hl rfl) rfl
theorem lpre2_3 : eqR (lcPre ⟨envOf 11 [.d (.int 2), .d (.int 3)], none⟩) (ls2_0 (some (.fz (.int 3)))) = true := by decide +kernel
theorem lawc2_3 (p : Option PotSt) : D__law_counts [.d (.int 2), .d (.int 3)] p = some (.fr (.dict ld2_3), p) := by
  obtain ⟨e0, l0⟩ := llp2_0 [.int 1, .int 2] (some (.fz (.int 3))) p
  obtain ⟨e1, l1⟩ := llp2_1 [.int 2] e0 p
  obtain ⟨e2, l2⟩ := llp2_2 [] e1 p
  have hl : dForL (gVar 9) lcBody (rangeD 0 1 3) ⟨ls2_0 (some (.fz (.int 3))), p⟩ = some (.nx, ⟨ls2_3 e2, p⟩) := by
    rw [show rangeD 0 1 3 = [.int 0, .int 1, .int 2] from rfl, l0, l1, l2]; rfl
  exact lawc_of lpre2_3 (lcEnd_ok (m := 3) rfl rfl hl rfl) rfl
theorem lpre2_4 : eqR (lcPre ⟨envOf 11 [.d (.int 2), .d (.int 4)], none⟩) (ls2_0 (some (.fz (.int 4)))) = true := by decide +kernel
theorem lawc2_4 (p : Option PotSt) : D__law_counts [.d (.int 2), .d (.int 4)] p = some (.fr (.dict ld2_4), p) := by
  obtain ⟨e0, l0⟩ := llp2_0 [.int 1, .int 2, .int 3] (some (.fz (.int 4))) p
  obtain ⟨e1, l1⟩ := llp2_1 [.int 2, .int 3] e0 p
  obtain ⟨e2, l2⟩ := llp2_2 [.int 3] e1 p
  obtain ⟨e3, l3⟩ := llp2_3 [] e2 p
  have hl : dForL (gVar 9) lcBody (rangeD 0 1 4) ⟨ls2_0 (some (.fz (.int 4))), p⟩ = some (.nx, ⟨ls2_4 e3, p⟩) := by
    rw [show rangeD 0 1 4 = [.int 0, .int 1, .int 2, .int 3] from rfl, l0, l1, l2, l3]; rfl
  exact lawc_of lpre2_4 (lcEnd_ok (m := 4) rfl rfl hl rfl) rfl
theorem lpre2_5 : eqR (lcPre ⟨envOf 11 [.d (.int 2), .d (.int 5)], none⟩) (ls2_0 (some (.fz (.int 5)))) = true := by decide +kernel
theorem lawc2_5 (p : Option PotSt) : D__law_counts [.d (.int 2), .d (.int 5)] p = some (.fr (.dict ld2_5), p) := by
  obtain ⟨e0, l0⟩ := llp2_0 [.int 1, .int 2, .int 3, .int 4] (some (.fz (.int 5))) p
  obtain ⟨e1, l1⟩ := llp2_1 [.int 2, .int 3, .int 4] e0 p
  obtain ⟨e2, l2⟩ := llp2_2 [.int 3, .int 4] e1 p
  obtain ⟨e3, l3⟩ := llp2_3 [.int 4] e2 p
  obtain ⟨e4, l4⟩ := llp2_4 [] e3 p
  have hl : dForL (gVar 9) lcBody (rangeD 0 1 5) ⟨ls2_0 (some (.fz (.int 5))), p⟩ = some (.nx, ⟨ls2_5 e4, p⟩) := by
    rw [show rangeD 0 1 5 = [.int 0, .int 1, .int 2, .int 3, .int 4] from rfl, l0, l1, l2, l3, l4]; rfl
  exact lawc_of lpre2_5 (lcEnd_ok (m := 5) rfl rfl hl rfl) rfl
theorem lpre2_6 : eqR (lcPre ⟨envOf 11 [.d (.int 2), .d (.int 6)], none⟩) (ls2_0 (some (.fz (.int 6)))) = true := by decide +kernel
theorem lawc2_6 (p : Option PotSt) : D__law_counts [.d (.int 2), .d (.int 6)] p = some (.fr (.dict ld2_6), p) := by
  obtain ⟨e0, l0⟩ := llp2_0 [.int 1, .int 2, .int 3, .int 4, .int 5] (some (.fz (.int 6))) p
  obtain ⟨e1, l1⟩ := llp2_1 [.int 2, .int 3, .int 4, .int 5] e0 p
  obtain ⟨e2, l2⟩ := llp2_2 [.int 3, .int 4, .int 5] e1 p
  obtain ⟨e3, l3⟩ := llp2_3 [.int 4, .int 5] e2 p
  obtain ⟨e4, l4⟩ := llp2_4 [.int 5] e3 p
  obtain ⟨e5, l5⟩ := llp2_5 [] e4 p
  have hl : dForL (gVar 9) lcBody (rangeD 0 1 6) ⟨ls2_0 (some (.fz (.int 6))), p⟩ = some (.nx, ⟨ls2_6 e5, p⟩) := by
    rw [show rangeD 0 1 6 = [.int 0, .int 1, .int 2, .int 3, .int 4, .int 5] from rfl, l0, l1, l2, l3, l4, l5]; rfl
  exact lawc_of lpre2_6 (lcEnd_ok (m := 6) rfl rfl hl rfl) rfl
theorem lpre2_7 : eqR (lcPre ⟨envOf 11 [.d (.int 2), .d (.int 7)], none⟩) (ls2_0 (some (.fz (.int 7)))) = true := by decide +kernel
theorem lawc2_7 (p : Option PotSt) : D__law_counts [.d (.int 2), .d (.int 7)] p = some (.fr (.dict ld2_7), p) := by
  obtain ⟨e0, l0⟩ := llp2_0 [.int 1, .int 2, .int 3, .int 4, .int 5, .int 6] (some (.fz (.int 7))) p
  obtain ⟨e1, l1⟩ := llp2_1 [.int 2, .int 3, .int 4, .int 5, .int 6] e0 p
  obtain ⟨e2, l2⟩ := llp2_2 [.int 3, .int 4, .int 5, .int 6] e1 p
  obtain ⟨e3, l3⟩ := llp2_3 [.int 4, .int 5, .int 6] e2 p
  obtain ⟨e4, l4⟩ := llp2_4 [.int 5, .int 6] e3 p
  obtain ⟨e5, l5⟩ := llp2_5 [.int 6] e4 p
  obtain ⟨e6, l6⟩ := llp2_6 [] e5 p
  have hl : dForL (gVar 9) lcBody (rangeD 0 1 7) ⟨ls2_0 (some (.fz (.int 7))), p⟩ = some (.nx, ⟨ls2_7 e6, p⟩) := by
    rw [show rangeD 0 1 7 = [.int 0, .int 1, .int 2, .int 3, .int 4, .int 5, .int 6] from rfl, l0, l1, l2, l3, l4, l5, l6]; rfl
  exact lawc_of lpre2_7 (lcEnd_ok (m := 7) rfl rfl hl rfl) rfl
theorem lpre2_8 : eqR (lcPre ⟨envOf 11 [.d (.int 2), .d (.int 8)], none⟩) (ls2_0 (some (.fz (.int 8)))) = true := by decide +kernel
theorem lawc2_8 (p : Option PotSt) : D__law_counts [.d (.int 2), .d (.int 8)] p = some (.fr (.dict ld2_8), p) := by
  obtain ⟨e0, l0⟩ := llp2_0 [.int 1, .int 2, .int 3, .int 4, .int 5, .int 6, .int 7] (some (.fz (.int 8))) p
  obtain ⟨e1, l1⟩ := llp2_1 [.int 2, .int 3, .int 4, .int 5, .int 6, .int 7] e0 p
  obtain ⟨e2, l2⟩ := llp2_2 [.int 3, .int 4, .int 5, .int 6, .int 7] e1 p
  obtain ⟨e3, l3⟩ := llp2_3 [.int 4, .int 5, .int 6, .int 7] e2 p
  obtain ⟨e4, l4⟩ := llp2_4 [.int 5, .int 6, .int 7] e3 p
  obtain ⟨e5, l5⟩ := llp2_5 [.int 6, .int 7] e4 p
  obtain ⟨e6, l6⟩ := llp2_6 [.int 7] e5 p
  obtain ⟨e7, l7⟩ := llp2_7 [] e6 p
  have hl : dForL (gVar 9) lcBody (rangeD 0 1 8) ⟨ls2_0 (some (.fz (.int 8))), p⟩ = some (.nx, ⟨ls2_8 e7, p⟩) := by
    rw [show rangeD 0 1 8 = [.int 0, .int 1, .int 2, .int 3, .int 4, .int 5, .int 6, .int 7] from rfl, l0, l1, l2, l3, l4, l5, l6, l7]; rfl
  exact lawc_of lpre2_8 (lcEnd_ok (m := 8) rfl rfl hl rfl) rfl
theorem lpre2_9 : eqR (lcPre ⟨envOf 11 [.d (.int 2), .d (.int 9)], none⟩) (ls2_0 (some (.fz (.int 9)))) = true := by decide +kernel
theorem lawc2_9 (p : Option PotSt) : D__law_counts [.d (.int 2), .d (.int 9)] p = some (.fr (.dict ld2_9), p) := by
  obtain ⟨e0, l0⟩ := llp2_0 [.int 1, .int 2, .int 3, .int 4, .int 5, .int 6, .int 7, .int 8] (some (.fz (.int 9))) p
  obtain ⟨e1, l1⟩ := llp2_1 [.int 2, .int 3, .int 4, .int 5, .int 6, .int 7, .int 8] e0 p
  obtain ⟨e2, l2⟩ := llp2_2 [.int 3, .int 4, .int 5, .int 6, .int 7, .int 8] e1 p
  obtain ⟨e3, l3⟩ := llp2_3 [.int 4, .int 5, .int 6, .int 7, .int 8] e2 p
  obtain ⟨e4, l4⟩ := llp2_4 [.int 5, .int 6, .int 7, .int 8] e3 p
  obtain ⟨e5, l5⟩ := llp2_5 [.int 6, .int 7, .int 8] e4 p
  obtain ⟨e6, l6⟩ := llp2_6 [.int 7, .int 8] e5 p
  obtain ⟨e7, l7⟩ := llp2_7 [.int 8] e6 p
  obtain ⟨e8, l8⟩ := llp2_8 [] e7 p
  have hl : dForL (gVar 9) lcBody (rangeD 0 1 9) ⟨ls2_0 (some (.fz (.int 9))), p⟩ = some (.nx, ⟨ls2_9 e8, p⟩) := by
    rw [show rangeD 0 1 9 = [.int 0, .int 1, .int 2, .int 3, .int 4, .int 5, .int 6, .int 7, .int 8] from rfl, l0, l1, l2, l3, l4, l5, l6, l7, l8]; rfl
  exact lawc_of lpre2_9 (lcEnd_ok (m := 9) rfl rfl hl rfl) rfl
theorem lpre2_10 : eqR (lcPre ⟨envOf 11 [.d (.int 2), .d (.int 10)], none⟩) (ls2_0 (some (.fz (.int 10)))) = true := by decide +kernel
theorem lawc2_10 (p : Option PotSt) : D__law_counts [.d (.int 2), .d (.int 10)] p = some (.fr (.dict ld2_10), p) := by
  obtain ⟨e0, l0⟩ := llp2_0 [.int 1, .int 2, .int 3, .int 4, .int 5, .int 6, .int 7, .int 8, .int 9] (some (.fz (.int 10))) p
  obtain ⟨e1, l1⟩ := llp2_1 [.int 2, .int 3, .int 4, .int 5, .int 6, .int 7, .int 8, .int 9] e0 p
  obtain ⟨e2, l2⟩ := llp2_2 [.int 3, .int 4, .int 5, .int 6, .int 7, .int 8, .int 9] e1 p
  obtain ⟨e3, l3⟩ := llp2_3 [.int 4, .int 5, .int 6, .int 7, .int 8, .int 9] e2 p
  obtain ⟨e4, l4⟩ := llp2_4 [.int 5, .int 6, .int 7, .int 8, .int 9] e3 p
  obtain ⟨e5, l5⟩ := llp2_5 [.int 6, .int 7, .int 8, .int 9] e4 p
  obtain ⟨e6, l6⟩ := llp2_6 [.int 7, .int 8, .int 9] e5 p
  obtain ⟨e7, l7⟩ := llp2_7 [.int 8, .int 9] e6 p
  obtain ⟨e8, l8⟩ := llp2_8 [.int 9] e7 p
  obtain ⟨e9, l9⟩ := llp2_9 [] e8 p
  have hl : dForL (gVar 9) lcBody (rangeD 0 1 10) ⟨ls2_0 (some (.fz (.int 10))), p⟩ = some (.nx, ⟨ls2_10 e9, p⟩) := by
    rw [show rangeD 0 1 10 = [.int 0, .int 1, .int 2, .int 3, .int 4, .int 5, .int 6, .int 7, .int 8, .int 9] from rfl, l0, l1, l2, l3, l4, l5, l6, l7, l8, l9]; rfl
  exact lawc_of lpre2_10 (lcEnd_ok (m := 10) rfl rfl hl rfl) rfl
theorem lpre2_11 : eqR (lcPre ⟨envOf 11 [.d (.int 2), .d (.int 11)], none⟩) (ls2_0 (some (.fz (.int 11)))) = true := by decide +kernel
theorem lawc2_11 (p : Option PotSt) : D__law_counts [.d (.int 2), .d (.int 11)] p = some (.fr (.dict ld2_11), p) := by
  obtain ⟨e0, l0⟩ := llp2_0 [.int 1, .int 2, .int 3, .int 4, .int 5, .int 6, .int 7, .int 8, .int 9, .int 10] (some (.fz (.int 11))) p
  obtain ⟨e1, l1⟩ := llp2_1 [.int 2, .int 3, .int 4, .int 5, .int 6, .int 7, .int 8, .int 9, .int 10] e0 p
  obtain ⟨e2, l2⟩ := llp2_2 [.int 3, .int 4, .int 5, .int 6, .int 7, .int 8, .int 9, .int 10] e1 p
  obtain ⟨e3, l3⟩ := llp2_3 [.int 4, .int 5, .int 6, .int 7, .int 8, .int 9, .int 10] e2 p
  obtain ⟨e4, l4⟩ := llp2_4 [.int 5, .int 6, .int 7, .int 8, .int 9, .int 10] e3 p
  obtain ⟨e5, l5⟩ := llp2_5 [.int 6, .int 7, .int 8, .int 9, .int 10] e4 p
  obtain ⟨e6, l6⟩ := llp2_6 [.int 7, .int 8, .int 9, .int 10] e5 p
  obtain ⟨e7, l7⟩ := llp2_7 [.int 8, .int 9, .int 10] e6 p
  obtain ⟨e8, l8⟩ := llp2_8 [.int 9, .int 10] e7 p
  obtain ⟨e9, l9⟩ := llp2_9 [.int 10] e8 p
  obtain ⟨e10, l10⟩ := llp2_10 [] e9 p
  have hl : dForL (gVar 9) lcBody (rangeD 0 1 11) ⟨ls2_0 (some (.fz (.int 11))), p⟩ = some (.nx, ⟨ls2_11 e10, p⟩) := by
    rw [show rangeD 0 1 11 = [.int 0, .int 1, .int 2, .int 3, .int 4, .int 5, .int 6, .int 7, .int 8, .int 9, .int 10] from rfl, l0, l1, l2, l3, l4, l5, l6, l7, l8, l9, l10]; rfl
  exact lawc_of lpre2_11 (lcEnd_ok (m := 11) rfl rfl hl rfl) rfl
theorem lpre2_12 : eqR (lcPre ⟨envOf 11 [.d (.int 2), .d (.int 12)], none⟩) (ls2_0 (some (.fz (.int 12)))) = true := by decide +kernel
theorem lawc2_12 (p : Option PotSt) : D__law_counts [.d (.int 2), .d (.int 12)] p = some (.fr (.dict ld2_12), p) := by
  obtain ⟨e0, l0⟩ := llp2_0 [.int 1, .int 2, .int 3, .int 4, .int 5, .int 6, .int 7, .int 8, .int 9, .int 10, .int 11] (some (.fz (.int 12))) p
  obtain ⟨e1, l1⟩ := llp2_1 [.int 2, .int 3, .int 4, .int 5, .int 6, .int 7, .int 8, .int 9, .int 10, .int 11] e0 p
  obtain ⟨e2, l2⟩ := llp2_2 [.int 3, .int 4, .int 5, .int 6, .int 7, .int 8, .int 9, .int 10, .int 11] e1 p
  obtain ⟨e3, l3⟩ := llp2_3 [.int 4, .int 5, .int 6, .int 7, .int 8, .int 9, .int 10, .int 11] e2 p
  obtain ⟨e4, l4⟩ := llp2_4 [.int 5, .int 6, .int 7, .int 8, .int 9, .int 10, .int 11] e3 p
  obtain ⟨e5, l5⟩ := llp2_5 [.int 6, .int 7, .int 8, .int 9, .int 10, .int 11] e4 p
  obtain ⟨e6, l6⟩ := llp2_6 [.int 7, .int 8, .int 9, .int 10, .int 11] e5 p
  obtain ⟨e7, l7⟩ := llp2_7 [.int 8, .int 9, .int 10, .int 11] e6 p
  obtain ⟨e8, l8⟩ := llp2_8 [.int 9, .int 10, .int 11] e7 p
  obtain ⟨e9, l9⟩ := llp2_9 [.int 10, .int 11] e8 p
  obtain ⟨e10, l10⟩ := llp2_10 [.int 11] e9 p
  obtain ⟨e11, l11⟩ := llp2_11 [] e10 p
  have hl : dForL (gVar 9) lcBody (rangeD 0 1 12) ⟨ls2_0 (some (.fz (.int 12))), p⟩ = some (.nx, ⟨ls2_12 e11, p⟩) := by
    rw [show rangeD 0 1 12 = [.int 0, .int 1, .int 2, .int 3, .int 4, .int 5, .int 6, .int 7, .int 8, .int 9, .int 10, .int 11] from rfl, l0, l1, l2, l3, l4, l5, l6, l7, l8, l9, l10, l11]; rfl
  exact lawc_of lpre2_12 (lcEnd_ok (m := 12) rfl rfl hl rfl) rfl
def rw3 : List PyData := [tr [-3, -2, -1], tr [-3, -2, 1], tr [-3, -1, -2], tr [-3, -1, 2], tr [-3, 1, -2], tr [-3, 1, 2], tr [-3, 2, -1], tr [-3, 2, 1], tr [-2, -3, -1], tr [-2, -3, 1], tr [-2, -1, -3], tr [-2, -1, 3], tr [-2, 1, -3], tr [-2, 1, 3], tr [-2, 3, -1], tr [-2, 3, 1], tr [-1, -3, -2], tr [-1, -3, 2], tr [-1, -2, -3], tr [-1, -2, 3], tr [-1, 2, -3], tr [-1, 2, 3], tr [-1, 3, -2], tr [-1, 3, 2], tr [1, -3, -2], tr [1, -3, 2], tr [1, -2, -3], tr [1, -2, 3], tr [1, 2, -3], tr [1, 2, 3], tr [1, 3, -2], tr [1, 3, 2], tr [2, -3, -1], tr [2, -3, 1], tr [2, -1, -3], tr [2, -1, 3], tr [2, 1, -3], tr [2, 1, 3], tr [2, 3, -1], tr [2, 3, 1], tr [3, -2, -1], tr [3, -2, 1], tr [3, -1, -2], tr [3, -1, 2], tr [3, 1, -2], tr [3, 1, 2], tr [3, 2, -1], tr [3, 2, 1]]
def to3 : List (PyData × PyData) := [(tr [-3, -2, -1], .list [tr [3, -2, -1], tr [2, 3, -1], tr [1, 2, 3], tr [-3, 2, -1], tr [-3, 1, 2], tr [-3, -2, 1]]), (tr [-3, -2, 1], .list [tr [3, -2, 1], tr [2, 3, 1], tr [-1, 2, 3], tr [-3, 2, 1], tr [-3, -1, 2], tr [-3, -2, -1]]), (tr [-3, -1, -2], .list [tr [3, -1, -2], tr [1, 3, -2], tr [2, 1, 3], tr [-3, 1, -2], tr [-3, 2, 1], tr [-3, -1, 2]]), (tr [-3, -1, 2], .list [tr [3, -1, 2], tr [1, 3, 2], tr [-2, 1, 3], tr [-3, 1, 2], tr [-3, -2, 1], tr [-3, -1, -2]]), (tr [-3, 1, -2], .list [tr [3, 1, -2], tr [-1, 3, -2], tr [2, -1, 3], tr [-3, -1, -2], tr [-3, 2, -1], tr [-3, 1, 2]]), (tr [-3, 1, 2], .list [tr [3, 1, 2], tr [-1, 3, 2], tr [-2, -1, 3], tr [-3, -1, 2], tr [-3, -2, -1], tr [-3, 1, -2]]), (tr [-3, 2, -1], .list [tr [3, 2, -1], tr [-2, 3, -1], tr [1, -2, 3], tr [-3, -2, -1], tr [-3, 1, -2], tr [-3, 2, 1]]), (tr [-3, 2, 1], .list [tr [3, 2, 1], tr [-2, 3, 1], tr [-1, -2, 3], tr [-3, -2, 1], tr [-3, -1, -2], tr [-3, 2, -1]]), (tr [-2, -3, -1], .list [tr [2, -3, -1], tr [3, 2, -1], tr [1, 3, 2], tr [-2, 3, -1], tr [-2, 1, 3], tr [-2, -3, 1]]), (tr [-2, -3, 1], .list [tr [2, -3, 1], tr [3, 2, 1], tr [-1, 3, 2], tr [-2, 3, 1], tr [-2, -1, 3], tr [-2, -3, -1]]), (tr [-2, -1, -3], .list [tr [2, -1, -3], tr [1, 2, -3], tr [3, 1, 2], tr [-2, 1, -3], tr [-2, 3, 1], tr [-2, -1, 3]]), (tr [-2, -1, 3], .list [tr [2, -1, 3], tr [1, 2, 3], tr [-3, 1, 2], tr [-2, 1, 3], tr [-2, -3, 1], tr [-2, -1, -3]]), (tr [-2, 1, -3], .list [tr [2, 1, -3], tr [-1, 2, -3], tr [3, -1, 2], tr [-2, -1, -3], tr [-2, 3, -1], tr [-2, 1, 3]]), (tr [-2, 1, 3], .list [tr [2, 1, 3], tr [-1, 2, 3], tr [-3, -1, 2], tr [-2, -1, 3], tr [-2, -3, -1], tr [-2, 1, -3]]), (tr [-2, 3, -1], .list [tr [2, 3, -1], tr [-3, 2, -1], tr [1, -3, 2], tr [-2, -3, -1], tr [-2, 1, -3], tr [-2, 3, 1]]), (tr [-2, 3, 1], .list [tr [2, 3, 1], tr [-3, 2, 1], tr [-1, -3, 2], tr [-2, -3, 1], tr [-2, -1, -3], tr [-2, 3, -1]]), (tr [-1, -3, -2], .list [tr [1, -3, -2], tr [3, 1, -2], tr [2, 3, 1], tr [-1, 3, -2], tr [-1, 2, 3], tr [-1, -3, 2]]), (tr [-1, -3, 2], .list [tr [1, -3, 2], tr [3, 1, 2], tr [-2, 3, 1], tr [-1, 3, 2], tr [-1, -2, 3], tr [-1, -3, -2]]), (tr [-1, -2, -3], .list [tr [1, -2, -3], tr [2, 1, -3], tr [3, 2, 1], tr [-1, 2, -3], tr [-1, 3, 2], tr [-1, -2, 3]]), (tr [-1, -2, 3], .list [tr [1, -2, 3], tr [2, 1, 3], tr [-3, 2, 1], tr [-1, 2, 3], tr [-1, -3, 2], tr [-1, -2, -3]]), (tr [-1, 2, -3], .list [tr [1, 2, -3], tr [-2, 1, -3], tr [3, -2, 1], tr [-1, -2, -3], tr [-1, 3, -2], tr [-1, 2, 3]]), (tr [-1, 2, 3], .list [tr [1, 2, 3], tr [-2, 1, 3], tr [-3, -2, 1], tr [-1, -2, 3], tr [-1, -3, -2], tr [-1, 2, -3]]), (tr [-1, 3, -2], .list [tr [1, 3, -2], tr [-3, 1, -2], tr [2, -3, 1], tr [-1, -3, -2], tr [-1, 2, -3], tr [-1, 3, 2]]), (tr [-1, 3, 2], .list [tr [1, 3, 2], tr [-3, 1, 2], tr [-2, -3, 1], tr [-1, -3, 2], tr [-1, -2, -3], tr [-1, 3, -2]]), (tr [1, -3, -2], .list [tr [-1, -3, -2], tr [3, -1, -2], tr [2, 3, -1], tr [1, 3, -2], tr [1, 2, 3], tr [1, -3, 2]]), (tr [1, -3, 2], .list [tr [-1, -3, 2], tr [3, -1, 2], tr [-2, 3, -1], tr [1, 3, 2], tr [1, -2, 3], tr [1, -3, -2]]), (tr [1, -2, -3], .list [tr [-1, -2, -3], tr [2, -1, -3], tr [3, 2, -1], tr [1, 2, -3], tr [1, 3, 2], tr [1, -2, 3]]), (tr [1, -2, 3], .list [tr [-1, -2, 3], tr [2, -1, 3], tr [-3, 2, -1], tr [1, 2, 3], tr [1, -3, 2], tr [1, -2, -3]]), (tr [1, 2, -3], .list [tr [-1, 2, -3], tr [-2, -1, -3], tr [3, -2, -1], tr [1, -2, -3], tr [1, 3, -2], tr [1, 2, 3]]), (tr [1, 2, 3], .list [tr [-1, 2, 3], tr [-2, -1, 3], tr [-3, -2, -1], tr [1, -2, 3], tr [1, -3, -2], tr [1, 2, -3]]), (tr [1, 3, -2], .list [tr [-1, 3, -2], tr [-3, -1, -2], tr [2, -3, -1], tr [1, -3, -2], tr [1, 2, -3], tr [1, 3, 2]]), (tr [1, 3, 2], .list [tr [-1, 3, 2], tr [-3, -1, 2], tr [-2, -3, -1], tr [1, -3, 2], tr [1, -2, -3], tr [1, 3, -2]]), (tr [2, -3, -1], .list [tr [-2, -3, -1], tr [3, -2, -1], tr [1, 3, -2], tr [2, 3, -1], tr [2, 1, 3], tr [2, -3, 1]]), (tr [2, -3, 1], .list [tr [-2, -3, 1], tr [3, -2, 1], tr [-1, 3, -2], tr [2, 3, 1], tr [2, -1, 3], tr [2, -3, -1]]), (tr [2, -1, -3], .list [tr [-2, -1, -3], tr [1, -2, -3], tr [3, 1, -2], tr [2, 1, -3], tr [2, 3, 1], tr [2, -1, 3]]), (tr [2, -1, 3], .list [tr [-2, -1, 3], tr [1, -2, 3], tr [-3, 1, -2], tr [2, 1, 3], tr [2, -3, 1], tr [2, -1, -3]]), (tr [2, 1, -3], .list [tr [-2, 1, -3], tr [-1, -2, -3], tr [3, -1, -2], tr [2, -1, -3], tr [2, 3, -1], tr [2, 1, 3]]), (tr [2, 1, 3], .list [tr [-2, 1, 3], tr [-1, -2, 3], tr [-3, -1, -2], tr [2, -1, 3], tr [2, -3, -1], tr [2, 1, -3]]), (tr [2, 3, -1], .list [tr [-2, 3, -1], tr [-3, -2, -1], tr [1, -3, -2], tr [2, -3, -1], tr [2, 1, -3], tr [2, 3, 1]]), (tr [2, 3, 1], .list [tr [-2, 3, 1], tr [-3, -2, 1], tr [-1, -3, -2], tr [2, -3, 1], tr [2, -1, -3], tr [2, 3, -1]]), (tr [3, -2, -1], .list [tr [-3, -2, -1], tr [2, -3, -1], tr [1, 2, -3], tr [3, 2, -1], tr [3, 1, 2], tr [3, -2, 1]]), (tr [3, -2, 1], .list [tr [-3, -2, 1], tr [2, -3, 1], tr [-1, 2, -3], tr [3, 2, 1], tr [3, -1, 2], tr [3, -2, -1]]), (tr [3, -1, -2], .list [tr [-3, -1, -2], tr [1, -3, -2], tr [2, 1, -3], tr [3, 1, -2], tr [3, 2, 1], tr [3, -1, 2]]), (tr [3, -1, 2], .list [tr [-3, -1, 2], tr [1, -3, 2], tr [-2, 1, -3], tr [3, 1, 2], tr [3, -2, 1], tr [3, -1, -2]]), (tr [3, 1, -2], .list [tr [-3, 1, -2], tr [-1, -3, -2], tr [2, -1, -3], tr [3, -1, -2], tr [3, 2, -1], tr [3, 1, 2]]), (tr [3, 1, 2], .list [tr [-3, 1, 2], tr [-1, -3, 2], tr [-2, -1, -3], tr [3, -1, 2], tr [3, -2, -1], tr [3, 1, -2]]), (tr [3, 2, -1], .list [tr [-3, 2, -1], tr [-2, -3, -1], tr [1, -2, -3], tr [3, -2, -1], tr [3, 1, -2], tr [3, 2, 1]]), (tr [3, 2, 1], .list [tr [-3, 2, 1], tr [-2, -3, 1], tr [-1, -2, -3], tr [3, -2, 1], tr [3, -1, -2], tr [3, 2, -1]])]
def ld3_0 : List (PyData × PyData) := tb [([-3, -2, -1], 0), ([-3, -2, 1], 0), ([-3, -1, -2], 0), ([-3, -1, 2], 0), ([-3, 1, -2], 0), ([-3, 1, 2], 0), ([-3, 2, -1], 0), ([-3, 2, 1], 0), ([-2, -3, -1], 0), ([-2, -3, 1], 0), ([-2, -1, -3], 0), ([-2, -1, 3], 0), ([-2, 1, -3], 0), ([-2, 1, 3], 0), ([-2, 3, -1], 0), ([-2, 3, 1], 0), ([-1, -3, -2], 0), ([-1, -3, 2], 0), ([-1, -2, -3], 0), ([-1, -2, 3], 0), ([-1, 2, -3], 0), ([-1, 2, 3], 0), ([-1, 3, -2], 0), ([-1, 3, 2], 0), ([1, -3, -2], 0), ([1, -3, 2], 0), ([1, -2, -3], 0), ([1, -2, 3], 0), ([1, 2, -3], 0), ([1, 2, 3], 1), ([1, 3, -2], 0), ([1, 3, 2], 0), ([2, -3, -1], 0), ([2, -3, 1], 0), ([2, -1, -3], 0), ([2, -1, 3], 0), ([2, 1, -3], 0), ([2, 1, 3], 0), ([2, 3, -1], 0), ([2, 3, 1], 0), ([3, -2, -1], 0), ([3, -2, 1], 0), ([3, -1, -2], 0), ([3, -1, 2], 0), ([3, 1, -2], 0), ([3, 1, 2], 0), ([3, 2, -1], 0), ([3, 2, 1], 0)]
def ls3_0 (e : Option Sl) : List (Option Sl) := [some (.fz (.int 3)), e, some (.fz (.list rw3)), some (.fz tn3), some (.fz (.int 2)), none, some (.own (.dict to3)), none, some (.own (.dict ld3_0)), none, none]
def ld3_1 : List (PyData × PyData) := tb [([-3, -2, -1], 1), ([-3, -2, 1], 0), ([-3, -1, -2], 0), ([-3, -1, 2], 0), ([-3, 1, -2], 0), ([-3, 1, 2], 0), ([-3, 2, -1], 0), ([-3, 2, 1], 0), ([-2, -3, -1], 0), ([-2, -3, 1], 0), ([-2, -1, -3], 0), ([-2, -1, 3], 1), ([-2, 1, -3], 0), ([-2, 1, 3], 0), ([-2, 3, -1], 0), ([-2, 3, 1], 0), ([-1, -3, -2], 0), ([-1, -3, 2], 0), ([-1, -2, -3], 0), ([-1, -2, 3], 0), ([-1, 2, -3], 0), ([-1, 2, 3], 1), ([-1, 3, -2], 0), ([-1, 3, 2], 0), ([1, -3, -2], 1), ([1, -3, 2], 0), ([1, -2, -3], 0), ([1, -2, 3], 1), ([1, 2, -3], 1), ([1, 2, 3], 0), ([1, 3, -2], 0), ([1, 3, 2], 0), ([2, -3, -1], 0), ([2, -3, 1], 0), ([2, -1, -3], 0), ([2, -1, 3], 0), ([2, 1, -3], 0), ([2, 1, 3], 0), ([2, 3, -1], 0), ([2, 3, 1], 0), ([3, -2, -1], 0), ([3, -2, 1], 0), ([3, -1, -2], 0), ([3, -1, 2], 0), ([3, 1, -2], 0), ([3, 1, 2], 0), ([3, 2, -1], 0), ([3, 2, 1], 0)]
def ls3_1 (e : Option Sl) : List (Option Sl) := [some (.fz (.int 3)), e, some (.fz (.list rw3)), some (.fz tn3), some (.fz (.int 2)), none, some (.own (.dict to3)), none, some (.own (.dict ld3_1)), some (.fz (.int 0)), none]
theorem lstep3_0 : eqR (dTurn (gVar 9) lcBody (.int 0) ⟨ls3_0 (some (.fz (.int 0))), none⟩) (ls3_1 (some (.fz (.int 0)))) = true := by decide +kernel
def ld3_2 : List (PyData × PyData) := tb [([-3, -2, -1], 0), ([-3, -2, 1], 2), ([-3, -1, -2], 0), ([-3, -1, 2], 0), ([-3, 1, -2], 0), ([-3, 1, 2], 2), ([-3, 2, -1], 2), ([-3, 2, 1], 0), ([-2, -3, -1], 0), ([-2, -3, 1], 1), ([-2, -1, -3], 2), ([-2, -1, 3], 0), ([-2, 1, -3], 0), ([-2, 1, 3], 2), ([-2, 3, -1], 0), ([-2, 3, 1], 0), ([-1, -3, -2], 2), ([-1, -3, 2], 0), ([-1, -2, -3], 0), ([-1, -2, 3], 2), ([-1, 2, -3], 2), ([-1, 2, 3], 0), ([-1, 3, -2], 0), ([-1, 3, 2], 0), ([1, -3, -2], 0), ([1, -3, 2], 2), ([1, -2, -3], 2), ([1, -2, 3], 0), ([1, 2, -3], 0), ([1, 2, 3], 6), ([1, 3, -2], 2), ([1, 3, 2], 0), ([2, -3, -1], 0), ([2, -3, 1], 0), ([2, -1, -3], 0), ([2, -1, 3], 2), ([2, 1, -3], 0), ([2, 1, 3], 0), ([2, 3, -1], 2), ([2, 3, 1], 0), ([3, -2, -1], 2), ([3, -2, 1], 0), ([3, -1, -2], 1), ([3, -1, 2], 0), ([3, 1, -2], 0), ([3, 1, 2], 0), ([3, 2, -1], 0), ([3, 2, 1], 0)]
def ls3_2 (e : Option Sl) : List (Option Sl) := [some (.fz (.int 3)), e, some (.fz (.list rw3)), some (.fz tn3), some (.fz (.int 2)), none, some (.own (.dict to3)), none, some (.own (.dict ld3_2)), some (.fz (.int 1)), none]
theorem lstep3_1 : eqR (dTurn (gVar 9) lcBody (.int 1) ⟨ls3_1 (some (.fz (.int 0))), none⟩) (ls3_2 (some (.fz (.int 0)))) = true := by decide +kernel
def ld3_3 : List (PyData × PyData) := tb [([-3, -2, -1], 16), ([-3, -2, 1], 0), ([-3, -1, -2], 3), ([-3, -1, 2], 6), ([-3, 1, -2], 6), ([-3, 1, 2], 0), ([-3, 2, -1], 0), ([-3, 2, 1], 6), ([-2, -3, -1], 3), ([-2, -3, 1], 0), ([-2, -1, -3], 0), ([-2, -1, 3], 15), ([-2, 1, -3], 6), ([-2, 1, 3], 0), ([-2, 3, -1], 6), ([-2, 3, 1], 3), ([-1, -3, -2], 0), ([-1, -3, 2], 6), ([-1, -2, -3], 6), ([-1, -2, 3], 0), ([-1, 2, -3], 0), ([-1, 2, 3], 16), ([-1, 3, -2], 6), ([-1, 3, 2], 3), ([1, -3, -2], 15), ([1, -3, 2], 0), ([1, -2, -3], 0), ([1, -2, 3], 16), ([1, 2, -3], 16), ([1, 2, 3], 0), ([1, 3, -2], 0), ([1, 3, 2], 6), ([2, -3, -1], 6), ([2, -3, 1], 3), ([2, -1, -3], 6), ([2, -1, 3], 0), ([2, 1, -3], 3), ([2, 1, 3], 6), ([2, 3, -1], 0), ([2, 3, 1], 6), ([3, -2, -1], 0), ([3, -2, 1], 6), ([3, -1, -2], 0), ([3, -1, 2], 3), ([3, 1, -2], 3), ([3, 1, 2], 6), ([3, 2, -1], 6), ([3, 2, 1], 2)]
def ls3_3 (e : Option Sl) : List (Option Sl) := [some (.fz (.int 3)), e, some (.fz (.list rw3)), some (.fz tn3), some (.fz (.int 2)), none, some (.own (.dict to3)), none, some (.own (.dict ld3_3)), some (.fz (.int 2)), none]
theorem lstep3_2 : eqR (dTurn (gVar 9) lcBody (.int 2) ⟨ls3_2 (some (.fz (.int 0))), none⟩) (ls3_3 (some (.fz (.int 0)))) = true := by decide +kernel
def ld3_4 : List (PyData × PyData) := tb [([-3, -2, -1], 0), ([-3, -2, 1], 56), ([-3, -1, -2], 24), ([-3, -1, 2], 12), ([-3, 1, -2], 12), ([-3, 1, 2], 52), ([-3, 2, -1], 56), ([-3, 2, 1], 8), ([-2, -3, -1], 24), ([-2, -3, 1], 29), ([-2, -1, -3], 52), ([-2, -1, 3], 0), ([-2, 1, -3], 12), ([-2, 1, 3], 52), ([-2, 3, -1], 12), ([-2, 3, 1], 24), ([-1, -3, -2], 52), ([-1, -3, 2], 12), ([-1, -2, -3], 8), ([-1, -2, 3], 56), ([-1, 2, -3], 56), ([-1, 2, 3], 0), ([-1, 3, -2], 12), ([-1, 3, 2], 24), ([1, -3, -2], 0), ([1, -3, 2], 52), ([1, -2, -3], 56), ([1, -2, 3], 0), ([1, 2, -3], 0), ([1, 2, 3], 94), ([1, 3, -2], 52), ([1, 3, 2], 12), ([2, -3, -1], 12), ([2, -3, 1], 24), ([2, -1, -3], 12), ([2, -1, 3], 52), ([2, 1, -3], 24), ([2, 1, 3], 12), ([2, 3, -1], 52), ([2, 3, 1], 12), ([3, -2, -1], 56), ([3, -2, 1], 8), ([3, -1, -2], 29), ([3, -1, 2], 24), ([3, 1, -2], 24), ([3, 1, 2], 12), ([3, 2, -1], 8), ([3, 2, 1], 24)]
def ls3_4 (e : Option Sl) : List (Option Sl) := [some (.fz (.int 3)), e, some (.fz (.list rw3)), some (.fz tn3), some (.fz (.int 2)), none, some (.own (.dict to3)), none, some (.own (.dict ld3_4)), some (.fz (.int 3)), none]
theorem lstep3_3 : eqR (dTurn (gVar 9) lcBody (.int 3) ⟨ls3_3 (some (.fz (.int 0))), none⟩) (ls3_4 (some (.fz (.int 0)))) = true := by decide +kernel
def ld3_5 : List (PyData × PyData) := tb [([-3, -2, -1], 366), ([-3, -2, 1], 40), ([-3, -1, -2], 125), ([-3, -1, 2], 220), ([-3, 1, -2], 220), ([-3, 1, 2], 60), ([-3, 2, -1], 40), ([-3, 2, 1], 240), ([-2, -3, -1], 125), ([-2, -3, 1], 120), ([-2, -1, -3], 60), ([-2, -1, 3], 331), ([-2, 1, -3], 220), ([-2, 1, 3], 60), ([-2, 3, -1], 220), ([-2, 3, 1], 125), ([-1, -3, -2], 60), ([-1, -3, 2], 220), ([-1, -2, -3], 240), ([-1, -2, 3], 40), ([-1, 2, -3], 40), ([-1, 2, 3], 366), ([-1, 3, -2], 220), ([-1, 3, 2], 125), ([1, -3, -2], 331), ([1, -3, 2], 60), ([1, -2, -3], 40), ([1, -2, 3], 366), ([1, 2, -3], 366), ([1, 2, 3], 0), ([1, 3, -2], 60), ([1, 3, 2], 220), ([2, -3, -1], 220), ([2, -3, 1], 125), ([2, -1, -3], 220), ([2, -1, 3], 60), ([2, 1, -3], 125), ([2, 1, 3], 220), ([2, 3, -1], 60), ([2, 3, 1], 220), ([3, -2, -1], 40), ([3, -2, 1], 240), ([3, -1, -2], 120), ([3, -1, 2], 125), ([3, 1, -2], 125), ([3, 1, 2], 220), ([3, 2, -1], 240), ([3, 2, 1], 90)]
def ls3_5 (e : Option Sl) : List (Option Sl) := [some (.fz (.int 3)), e, some (.fz (.list rw3)), some (.fz tn3), some (.fz (.int 2)), none, some (.own (.dict to3)), none, some (.own (.dict ld3_5)), some (.fz (.int 4)), none]
theorem lstep3_4 : eqR (dTurn (gVar 9) lcBody (.int 4) ⟨ls3_4 (some (.fz (.int 0))), none⟩) (ls3_5 (some (.fz (.int 0)))) = true := by decide +kernel
def ld3_6 : List (PyData × PyData) := tb [([-3, -2, -1], 240), ([-3, -2, 1], 1652), ([-3, -1, -2], 1080), ([-3, -1, 2], 630), ([-3, 1, -2], 630), ([-3, 1, 2], 1482), ([-3, 2, -1], 1652), ([-3, 2, 1], 460), ([-2, -3, -1], 1080), ([-2, -3, 1], 921), ([-2, -1, -3], 1482), ([-2, -1, 3], 360), ([-2, 1, -3], 630), ([-2, 1, 3], 1482), ([-2, 3, -1], 630), ([-2, 3, 1], 1080), ([-1, -3, -2], 1482), ([-1, -3, 2], 630), ([-1, -2, -3], 460), ([-1, -2, 3], 1652), ([-1, 2, -3], 1652), ([-1, 2, 3], 240), ([-1, 3, -2], 630), ([-1, 3, 2], 1080), ([1, -3, -2], 360), ([1, -3, 2], 1482), ([1, -2, -3], 1652), ([1, -2, 3], 240), ([1, 2, -3], 240), ([1, 2, 3], 2126), ([1, 3, -2], 1482), ([1, 3, 2], 630), ([2, -3, -1], 630), ([2, -3, 1], 1080), ([2, -1, -3], 630), ([2, -1, 3], 1482), ([2, 1, -3], 1080), ([2, 1, 3], 630), ([2, 3, -1], 1482), ([2, 3, 1], 630), ([3, -2, -1], 1652), ([3, -2, 1], 460), ([3, -1, -2], 921), ([3, -1, 2], 1080), ([3, 1, -2], 1080), ([3, 1, 2], 630), ([3, 2, -1], 460), ([3, 2, 1], 1200)]
def ls3_6 (e : Option Sl) : List (Option Sl) := [some (.fz (.int 3)), e, some (.fz (.list rw3)), some (.fz tn3), some (.fz (.int 2)), none, some (.own (.dict to3)), none, some (.own (.dict ld3_6)), some (.fz (.int 5)), none]
theorem lstep3_5 : eqR (dTurn (gVar 9) lcBody (.int 5) ⟨ls3_5 (some (.fz (.int 0))), none⟩) (ls3_6 (some (.fz (.int 0)))) = true := by decide +kernel
def ld3_7 : List (PyData × PyData) := tb [([-3, -2, -1], 10046), ([-3, -2, 1], 2660), ([-3, -1, -2], 4753), ([-3, -1, 2], 7406), ([-3, 1, -2], 7406), ([-3, 1, 2], 3570), ([-3, 2, -1], 2660), ([-3, 2, 1], 8316), ([-2, -3, -1], 4753), ([-2, -3, 1], 5880), ([-2, -1, -3], 3570), ([-2, -1, 3], 8975), ([-2, 1, -3], 7406), ([-2, 1, 3], 3570), ([-2, 3, -1], 7406), ([-2, 3, 1], 4753), ([-1, -3, -2], 3570), ([-1, -3, 2], 7406), ([-1, -2, -3], 8316), ([-1, -2, 3], 2660), ([-1, 2, -3], 2660), ([-1, 2, 3], 10046), ([-1, 3, -2], 7406), ([-1, 3, 2], 4753), ([1, -3, -2], 8975), ([1, -3, 2], 3570), ([1, -2, -3], 2660), ([1, -2, 3], 10046), ([1, 2, -3], 10046), ([1, 2, 3], 1680), ([1, 3, -2], 3570), ([1, 3, 2], 7406), ([2, -3, -1], 7406), ([2, -3, 1], 4753), ([2, -1, -3], 7406), ([2, -1, 3], 3570), ([2, 1, -3], 4753), ([2, 1, 3], 7406), ([2, 3, -1], 3570), ([2, 3, 1], 7406), ([3, -2, -1], 2660), ([3, -2, 1], 8316), ([3, -1, -2], 5880), ([3, -1, 2], 4753), ([3, 1, -2], 4753), ([3, 1, 2], 7406), ([3, 2, -1], 8316), ([3, 2, 1], 3682)]
def ls3_7 (e : Option Sl) : List (Option Sl) := [some (.fz (.int 3)), e, some (.fz (.list rw3)), some (.fz tn3), some (.fz (.int 2)), none, some (.own (.dict to3)), none, some (.own (.dict ld3_7)), some (.fz (.int 6)), none]
theorem lstep3_6 : eqR (dTurn (gVar 9) lcBody (.int 6) ⟨ls3_6 (some (.fz (.int 0))), none⟩) (ls3_7 (some (.fz (.int 0)))) = true := by decide +kernel
def ld3_8 : List (PyData × PyData) := tb [([-3, -2, -1], 16800), ([-3, -2, 1], 51536), ([-3, -1, -2], 39984), ([-3, -1, 2], 26712), ([-3, 1, -2], 26712), ([-3, 1, 2], 45992), ([-3, 2, -1], 51536), ([-3, 2, 1], 21168), ([-2, -3, -1], 39984), ([-2, -3, 1], 31669), ([-2, -1, -3], 45992), ([-2, -1, 3], 21840), ([-2, 1, -3], 26712), ([-2, 1, 3], 45992), ([-2, 3, -1], 26712), ([-2, 3, 1], 39984), ([-1, -3, -2], 45992), ([-1, -3, 2], 26712), ([-1, -2, -3], 21168), ([-1, -2, 3], 51536), ([-1, 2, -3], 51536), ([-1, 2, 3], 16800), ([-1, 3, -2], 26712), ([-1, 3, 2], 39984), ([1, -3, -2], 21840), ([1, -3, 2], 45992), ([1, -2, -3], 51536), ([1, -2, 3], 16800), ([1, 2, -3], 16800), ([1, 2, 3], 58134), ([1, 3, -2], 45992), ([1, 3, 2], 26712), ([2, -3, -1], 26712), ([2, -3, 1], 39984), ([2, -1, -3], 26712), ([2, -1, 3], 45992), ([2, 1, -3], 39984), ([2, 1, 3], 26712), ([2, 3, -1], 45992), ([2, 3, 1], 26712), ([3, -2, -1], 51536), ([3, -2, 1], 21168), ([3, -1, -2], 31669), ([3, -1, 2], 39984), ([3, 1, -2], 39984), ([3, 1, 2], 26712), ([3, 2, -1], 21168), ([3, 2, 1], 45024)]
def ls3_8 (e : Option Sl) : List (Option Sl) := [some (.fz (.int 3)), e, some (.fz (.list rw3)), some (.fz tn3), some (.fz (.int 2)), none, some (.own (.dict to3)), none, some (.own (.dict ld3_8)), some (.fz (.int 7)), none]
theorem lstep3_7 : eqR (dTurn (gVar 9) lcBody (.int 7) ⟨ls3_7 (some (.fz (.int 0))), none⟩) (ls3_8 (some (.fz (.int 0)))) = true := by decide +kernel
def ld3_9 : List (PyData × PyData) := tb [([-3, -2, -1], 304726), ([-3, -2, 1], 129360), ([-3, -1, -2], 178965), ([-3, -1, 2], 250200), ([-3, 1, -2], 250200), ([-3, 1, 2], 158760), ([-3, 2, -1], 129360), ([-3, 2, 1], 279600), ([-2, -3, -1], 178965), ([-2, -3, 1], 226800), ([-2, -1, -3], 158760), ([-2, -1, 3], 273771), ([-2, 1, -3], 250200), ([-2, 1, 3], 158760), ([-2, 3, -1], 250200), ([-2, 3, 1], 178965), ([-1, -3, -2], 158760), ([-1, -3, 2], 250200), ([-1, -2, -3], 279600), ([-1, -2, 3], 129360), ([-1, 2, -3], 129360), ([-1, 2, 3], 304726), ([-1, 3, -2], 250200), ([-1, 3, 2], 178965), ([1, -3, -2], 273771), ([1, -3, 2], 158760), ([1, -2, -3], 129360), ([1, -2, 3], 304726), ([1, 2, -3], 304726), ([1, 2, 3], 110880), ([1, 3, -2], 158760), ([1, 3, 2], 250200), ([2, -3, -1], 250200), ([2, -3, 1], 178965), ([2, -1, -3], 250200), ([2, -1, 3], 158760), ([2, 1, -3], 178965), ([2, 1, 3], 250200), ([2, 3, -1], 158760), ([2, 3, 1], 250200), ([3, -2, -1], 129360), ([3, -2, 1], 279600), ([3, -1, -2], 226800), ([3, -1, 2], 178965), ([3, 1, -2], 178965), ([3, 1, 2], 250200), ([3, 2, -1], 279600), ([3, 2, 1], 148010)]
def ls3_9 (e : Option Sl) : List (Option Sl) := [some (.fz (.int 3)), e, some (.fz (.list rw3)), some (.fz tn3), some (.fz (.int 2)), none, some (.own (.dict to3)), none, some (.own (.dict ld3_9)), some (.fz (.int 8)), none]
theorem lstep3_8 : eqR (dTurn (gVar 9) lcBody (.int 8) ⟨ls3_8 (some (.fz (.int 0))), none⟩) (ls3_9 (some (.fz (.int 0)))) = true := by decide +kernel
def ld3_10 : List (PyData × PyData) := tb [([-3, -2, -1], 816480), ([-3, -2, 1], 1669052), ([-3, -1, -2], 1415760), ([-3, -1, 2], 1055010), ([-3, 1, -2], 1055010), ([-3, 1, 2], 1508062), ([-3, 2, -1], 1669052), ([-3, 2, 1], 894020), ([-2, -3, -1], 1415760), ([-2, -3, 1], 1137641), ([-2, -1, -3], 1508062), ([-2, -1, 3], 972720), ([-2, 1, -3], 1055010), ([-2, 1, 3], 1508062), ([-2, 3, -1], 1055010), ([-2, 3, 1], 1415760), ([-1, -3, -2], 1508062), ([-1, -3, 2], 1055010), ([-1, -2, -3], 894020), ([-1, -2, 3], 1669052), ([-1, 2, -3], 1669052), ([-1, 2, 3], 816480), ([-1, 3, -2], 1055010), ([-1, 3, 2], 1415760), ([1, -3, -2], 972720), ([1, -3, 2], 1508062), ([1, -2, -3], 1669052), ([1, -2, 3], 816480), ([1, 2, -3], 816480), ([1, 2, 3], 1766446), ([1, 3, -2], 1508062), ([1, 3, 2], 1055010), ([2, -3, -1], 1055010), ([2, -3, 1], 1415760), ([2, -1, -3], 1055010), ([2, -1, 3], 1508062), ([2, 1, -3], 1415760), ([2, 1, 3], 1055010), ([2, 3, -1], 1508062), ([2, 3, 1], 1055010), ([3, -2, -1], 1669052), ([3, -2, 1], 894020), ([3, -1, -2], 1137641), ([3, -1, 2], 1415760), ([3, 1, -2], 1415760), ([3, 1, 2], 1055010), ([3, 2, -1], 894020), ([3, 2, 1], 1572000)]
def ls3_10 (e : Option Sl) : List (Option Sl) := [some (.fz (.int 3)), e, some (.fz (.list rw3)), some (.fz tn3), some (.fz (.int 2)), none, some (.own (.dict to3)), none, some (.own (.dict ld3_10)), some (.fz (.int 9)), none]
theorem lstep3_9 : eqR (dTurn (gVar 9) lcBody (.int 9) ⟨ls3_9 (some (.fz (.int 0))), none⟩) (ls3_10 (some (.fz (.int 0)))) = true := by decide +kernel
def ld3_11 : List (PyData × PyData) := tb [([-3, -2, -1], 9789726), ([-3, -2, 1], 5531020), ([-3, -1, -2], 6704753), ([-3, -1, 2], 8571706), ([-3, 1, -2], 8571706), ([-3, 1, 2], 6369990), ([-3, 2, -1], 5531020), ([-3, 2, 1], 9410676), ([-2, -3, -1], 6704753), ([-2, -3, 1], 8207760), ([-2, -1, -3], 6369990), ([-2, -1, 3], 8936335), ([-2, 1, -3], 8571706), ([-2, 1, 3], 6369990), ([-2, 3, -1], 8571706), ([-2, 3, 1], 6704753), ([-1, -3, -2], 6369990), ([-1, -3, 2], 8571706), ([-1, -2, -3], 9410676), ([-1, -2, 3], 5531020), ([-1, 2, -3], 5531020), ([-1, 2, 3], 9789726), ([-1, 3, -2], 8571706), ([-1, 3, 2], 6704753), ([1, -3, -2], 8936335), ([1, -3, 2], 6369990), ([1, -2, -3], 5531020), ([1, -2, 3], 9789726), ([1, 2, -3], 9789726), ([1, 2, 3], 5211360), ([1, 3, -2], 6369990), ([1, 3, 2], 8571706), ([2, -3, -1], 8571706), ([2, -3, 1], 6704753), ([2, -1, -3], 8571706), ([2, -1, 3], 6369990), ([2, 1, -3], 6704753), ([2, 1, 3], 8571706), ([2, 3, -1], 6369990), ([2, 3, 1], 8571706), ([3, -2, -1], 5531020), ([3, -2, 1], 9410676), ([3, -1, -2], 8207760), ([3, -1, 2], 6704753), ([3, 1, -2], 6704753), ([3, 1, 2], 8571706), ([3, 2, -1], 9410676), ([3, 2, 1], 5851362)]
def ls3_11 (e : Option Sl) : List (Option Sl) := [some (.fz (.int 3)), e, some (.fz (.list rw3)), some (.fz tn3), some (.fz (.int 2)), none, some (.own (.dict to3)), none, some (.own (.dict ld3_11)), some (.fz (.int 10)), none]
theorem lstep3_10 : eqR (dTurn (gVar 9) lcBody (.int 10) ⟨ls3_10 (some (.fz (.int 0))), none⟩) (ls3_11 (some (.fz (.int 0)))) = true := by decide +kernel
def ld3_12 : List (PyData × PyData) := tb [([-3, -2, -1], 34544400), ([-3, -2, 1], 55544216), ([-3, -1, -2], 49703544), ([-3, -1, 2], 40252212), ([-3, 1, -2], 40252212), ([-3, 1, 2], 51145932), ([-3, 2, -1], 55544216), ([-3, 2, 1], 35853928), ([-2, -3, -1], 49703544), ([-2, -3, 1], 41606709), ([-2, -1, -3], 51145932), ([-2, -1, 3], 38899080), ([-2, 1, -3], 40252212), ([-2, 1, 3], 51145932), ([-2, 3, -1], 40252212), ([-2, 3, 1], 49703544), ([-1, -3, -2], 51145932), ([-1, -3, 2], 40252212), ([-1, -2, -3], 35853928), ([-1, -2, 3], 55544216), ([-1, 2, -3], 55544216), ([-1, 2, 3], 34544400), ([-1, 3, -2], 40252212), ([-1, 3, 2], 49703544), ([1, -3, -2], 38899080), ([1, -3, 2], 51145932), ([1, -2, -3], 55544216), ([1, -2, 3], 34544400), ([1, 2, -3], 34544400), ([1, 2, 3], 57031574), ([1, 3, -2], 51145932), ([1, 3, 2], 40252212), ([2, -3, -1], 40252212), ([2, -3, 1], 49703544), ([2, -1, -3], 40252212), ([2, -1, 3], 51145932), ([2, 1, -3], 49703544), ([2, 1, 3], 40252212), ([2, 3, -1], 51145932), ([2, 3, 1], 40252212), ([3, -2, -1], 55544216), ([3, -2, 1], 35853928), ([3, -1, -2], 41606709), ([3, -1, 2], 49703544), ([3, 1, -2], 49703544), ([3, 1, 2], 40252212), ([3, 2, -1], 35853928), ([3, 2, 1], 54058224)]
def ls3_12 (e : Option Sl) : List (Option Sl) := [some (.fz (.int 3)), e, some (.fz (.list rw3)), some (.fz tn3), some (.fz (.int 2)), none, some (.own (.dict to3)), none, some (.own (.dict ld3_12)), some (.fz (.int 11)), none]
theorem lstep3_11 : eqR (dTurn (gVar 9) lcBody (.int 11) ⟨ls3_11 (some (.fz (.int 0))), none⟩) (ls3_12 (some (.fz (.int 0)))) = true := by decide +kernel
theorem llp3_0 (l : List PyData) (e : Option Sl) (p : Option PotSt) : ∃ e', dForL (gVar 9) lcBody (.int 0 :: l) ⟨ls3_0 e, p⟩ = dForL (gVar 9) lcBody l ⟨ls3_1 e', p⟩ :=
  turn_at (i := 1) (some (.fz (.int 0))) (fun p => rd_turn rg_var rel_lcBody _) (fun _ => rfl) (fun _ => rfl) (Nat.le_of_ble_eq_true rfl) lstep3_0 l e p
theorem llp3_1 (l : List PyData) (e : Option Sl) (p : Option PotSt) : ∃ e', dForL (gVar 9) lcBody (.int 1 :: l) ⟨ls3_1 e, p⟩ = dForL (gVar 9) lcBody l ⟨ls3_2 e', p⟩ :=
  turn_at (i := 1) (some (.fz (.int 0))) (fun p => rd_turn rg_var rel_lcBody _) (fun _ => rfl) (fun _ => rfl) (Nat.le_of_ble_eq_true rfl) lstep3_1 l e p
theorem llp3_2 (l : List PyData) (e : Option Sl) (p : Option PotSt) : ∃ e', dForL (gVar 9) lcBody (.int 2 :: l) ⟨ls3_2 e, p⟩ = dForL (gVar 9) lcBody l ⟨ls3_3 e', p⟩ :=
  turn_at (i := 1) (some (.fz (.int 0))) (fun p => rd_turn rg_var rel_lcBody _) (fun _ => rfl) (fun _ => rfl) (Nat.le_of_ble_eq_true rfl) lstep3_2 l e p
theorem llp3_3 (l : List PyData) (e : Option Sl) (p : Option PotSt) : ∃ e', dForL (gVar 9) lcBody (.int 3 :: l) ⟨ls3_3 e, p⟩ = dForL (gVar 9) lcBody l ⟨ls3_4 e', p⟩ :=
  turn_at (i := 1) (some (.fz (.int 0))) (fun p => rd_turn rg_var rel_lcBody _) (fun _ => rfl) (fun _ => rfl) (Nat.le_of_ble_eq_true rfl) lstep3_3 l e p
theorem llp3_4 (l : List PyData) (e : Option Sl) (p : Option PotSt) : ∃ e', dForL (gVar 9) lcBody (.int 4 :: l) ⟨ls3_4 e, p⟩ = dForL (gVar 9) lcBody l ⟨ls3_5 e', p⟩ :=
  turn_at (i := 1) (some (.fz (.int 0))) (fun p => rd_turn rg_var rel_lcBody _) (fun _ => rfl) (fun _ => rfl) (Nat.le_of_ble_eq_true rfl) lstep3_4 l e p
theorem llp3_5 (l : List PyData) (e : Option Sl) (p : Option PotSt) : ∃ e', dForL (gVar 9) lcBody (.int 5 :: l) ⟨ls3_5 e, p⟩ = dForL (gVar 9) lcBody l ⟨ls3_6 e', p⟩ :=
  turn_at (i := 1) (some (.fz (.int 0))) (fun p => rd_turn rg_var rel_lcBody _) (fun _ => rfl) (fun _ => rfl) (Nat.le_of_ble_eq_true rfl) lstep3_5 l e p
theorem llp3_6 (l : List PyData) (e : Option Sl) (p : Option PotSt) : ∃ e', dForL (gVar 9) lcBody (.int 6 :: l) ⟨ls3_6 e, p⟩ = dForL (gVar 9) lcBody l ⟨ls3_7 e', p⟩ :=
  turn_at (i := 1) (some (.fz (.int 0))) (fun p => rd_turn rg_var rel_lcBody _) (fun _ => rfl) (fun _ => rfl) (Nat.le_of_ble_eq_true rfl) lstep3_6 l e p
theorem llp3_7 (l : List PyData) (e : Option Sl) (p : Option PotSt) : ∃ e', dForL (gVar 9) lcBody (.int 7 :: l) ⟨ls3_7 e, p⟩ = dForL (gVar 9) lcBody l ⟨ls3_8 e', p⟩ :=
  turn_at (i := 1) (some (.fz (.int 0))) (fun p => rd_turn rg_var rel_lcBody _) (fun _ => rfl) (fun _ => rfl) (Nat.le_of_ble_eq_true rfl) lstep3_7 l e p
theorem llp3_8 (l : List PyData) (e : Option Sl) (p : Option PotSt) : ∃ e', dForL (gVar 9) lcBody (.int 8 :: l) ⟨ls3_8 e, p⟩ = dForL (gVar 9) lcBody l ⟨ls3_9 e', p⟩ :=
  turn_at (i := 1) (some (.fz (.int 0))) (fun p => rd_turn rg_var rel_lcBody _) (fun _ => rfl) (fun _ => rfl) (Nat.le_of_ble_eq_true rfl) lstep3_8 l e p
theorem llp3_9 (l : List PyData) (e : Option Sl) (p : Option PotSt) : ∃ e', dForL (gVar 9) lcBody (.int 9 :: l) ⟨ls3_9 e, p⟩ = dForL (gVar 9) lcBody l ⟨ls3_10 e', p⟩ :=
  turn_at (i := 1) (some (.fz (.int 0))) (fun p => rd_turn rg_var rel_lcBody _) (fun _ => rfl) (fun _ => rfl) (Nat.le_of_ble_eq_true rfl) lstep3_9 l e p
theorem llp3_10 (l : List PyData) (e : Option Sl) (p : Option PotSt) : ∃ e', dForL (gVar 9) lcBody (.int 10 :: l) ⟨ls3_10 e, p⟩ = dForL (gVar 9) lcBody l ⟨ls3_11 e', p⟩ :=
  turn_at (i := 1) (some (.fz (.int 0))) (fun p => rd_turn rg_var rel_lcBody _) (fun _ => rfl) (fun _ => rfl) (Nat.le_of_ble_eq_true rfl) lstep3_10 l e p
theorem llp3_11 (l : List PyData) (e : Option Sl) (p : Option PotSt) : ∃ e', dForL (gVar 9) lcBody (.int 11 :: l) ⟨ls3_11 e, p⟩ = dForL (gVar 9) lcBody l ⟨ls3_12 e', p⟩ :=
  turn_at (i := 1) (some (.fz (.int 0))) (fun p => rd_turn rg_var rel_lcBody _) (fun _ => rfl) (fun _ => rfl) (Nat.le_of_ble_eq_true rfl) lstep3_11 l e p
theorem lpre3_0 : eqR (lcPre ⟨envOf 11 [.d (.int 3), .d (.int 0)], none⟩) (ls3_0 (some (.fz (.int 0)))) = true := by decide +kernel
theorem lawc3_0 (p : Option PotSt) : D__law_counts [.d (.int 3), .d (.int 0)] p = some (.fr (.dict ld3_0), p) := by
  have hl : dForL (gVar 9) lcBody (rangeD 0 1 0) ⟨ls3_0 (some (.fz (.int 0))), p⟩ = some (.nx, ⟨ls3_0 (some (.fz (.int 0))), p⟩) := by
    rw [show rangeD 0 1 0 = [] from rfl]; rfl
  exact lawc_of lpre3_0 (lcEnd_ok (m := 0) rfl rfl hl rfl) rfl
theorem lpre3_1 : eqR (lcPre ⟨envOf 11 [.d (.int 3), .d (.int 1)], none⟩) (ls3_0 (some (.fz (.int 1)))) = true := by decide +kernel
theorem lawc3_1 (p : Option PotSt) : D__law_counts [.d (.int 3), .d (.int 1)] p = some (.fr (.dict ld3_1), p) := by
  obtain ⟨e0, l0⟩ := llp3_0 [] (some (.fz (.int 1))) p
  have hl : dForL (gVar 9) lcBody (rangeD 0 1 1) ⟨ls3_0 (some (.fz (.int 1))), p⟩ = some (.nx, ⟨ls3_1 e0, p⟩) := by
    rw [show rangeD 0 1 1 = [.int 0] from rfl, l0]; rfl
  exact lawc_of lpre3_1 (lcEnd_ok (m := 1) rfl rfl hl rfl) rfl
theorem lpre3_2 : eqR (lcPre ⟨envOf 11 [.d (.int 3), .d (.int 2)], none⟩) (ls3_0 (some (.fz (.int 2)))) = true := by decide +kernel
theorem lawc3_2 (p : Option PotSt) : D__law_counts [.d (.int 3), .d (.int 2)] p = some (.fr (.dict ld3_2), p) := by
  obtain ⟨e0, l0⟩ := llp3_0 [.int 1] (some (.fz (.int 2))) p
  obtain ⟨e1, l1⟩ := llp3_1 [] e0 p
  have hl : dForL (gVar 9) lcBody (rangeD 0 1 2) ⟨ls3_0 (some (.fz (.int 2))), p⟩ = some (.nx, ⟨ls3_2 e1, p⟩) := by
    rw [show rangeD 0 1 2 = [.int 0, .int 1] from rfl, l0, l1]; rfl
  exact lawc_of lpre3_2 (lcEnd_ok (m := 2) rfl rfl hl rfl) rfl
theorem lpre3_3 : eqR (lcPre ⟨envOf 11 [.d (.int 3), .d (.int 3)], none⟩) (ls3_0 (some (.fz (.int 3)))) = true := by decide +kernel
theorem lawc3_3 (p : Option PotSt) : D__law_counts [.d (.int 3), .d (.int 3)] p = some (.fr (.dict ld3_3), p) := by
  obtain ⟨e0, l0⟩ := llp3_0 [.int 1, .int 2] (some (.fz (.int 3))) p
  obtain ⟨e1, l1⟩ := llp3_1 [.int 2] e0 p
  obtain ⟨e2, l2⟩ := llp3_2 [] e1 p
  have hl : dForL (gVar 9) lcBody (rangeD 0 1 3) ⟨ls3_0 (some (.fz (.int 3))), p⟩ = some (.nx, ⟨ls3_3 e2, p⟩) := by
    rw [show rangeD 0 1 3 = [.int 0, .int 1, .int 2] from rfl, l0, l1, l2]; rfl
  exact lawc_of lpre3_3 (lcEnd_ok (m := 3) rfl rfl hl rfl) rfl
theorem lpre3_4 : eqR (lcPre ⟨envOf 11 [.d (.int 3), .d (.int 4)], none⟩) (ls3_0 (some (.fz (.int 4)))) = true := by decide +kernel
theorem lawc3_4 (p : Option PotSt) : D__law_counts [.d (.int 3), .d (.int 4)] p = some (.fr (.dict ld3_4), p) := by
  obtain ⟨e0, l0⟩ := llp3_0 [.int 1, .int 2, .int 3] (some (.fz (.int 4))) p
  obtain ⟨e1, l1⟩ := llp3_1 [.int 2, .int 3] e0 p
  obtain ⟨e2, l2⟩ := llp3_2 [.int 3] e1 p
  obtain ⟨e3, l3⟩ := llp3_3 [] e2 p
  have hl : dForL (gVar 9) lcBody (rangeD 0 1 4) ⟨ls3_0 (some (.fz (.int 4))), p⟩ = some (.nx, ⟨ls3_4 e3, p⟩) := by
    rw [show rangeD 0 1 4 = [.int 0, .int 1, .int 2, .int 3] from rfl, l0, l1, l2, l3]; rfl
  exact lawc_of lpre3_4 (lcEnd_ok (m := 4) rfl rfl hl rfl) rfl
theorem lpre3_5 : eqR (lcPre ⟨envOf 11 [.d (.int 3), .d (.int 5)], none⟩) (ls3_0 (some (.fz (.int 5)))) = true := by decide +kernel
theorem lawc3_5 (p : Option PotSt) : D__law_counts [.d (.int 3), .d (.int 5)] p = some (.fr (.dict ld3_5), p) := by
  obtain ⟨e0, l0⟩ := llp3_0 [.int 1, .int 2, .int 3, .int 4] (some (.fz (.int 5))) p
  obtain ⟨e1, l1⟩ := llp3_1 [.int 2, .int 3, .int 4] e0 p
  obtain ⟨e2, l2⟩ := llp3_2 [.int 3, .int 4] e1 p
  obtain ⟨e3, l3⟩ := llp3_3 [.int 4] e2 p
  obtain ⟨e4, l4⟩ := llp3_4 [] e3 p
  have hl : dForL (gVar 9) lcBody (rangeD 0 1 5) ⟨ls3_0 (some (.fz (.int 5))), p⟩ = some (.nx, ⟨ls3_5 e4, p⟩) := by
    rw [show rangeD 0 1 5 = [.int 0, .int 1, .int 2, .int 3, .int 4] from rfl, l0, l1, l2, l3, l4]; rfl
  exact lawc_of lpre3_5 (lcEnd_ok (m := 5) rfl rfl hl rfl) rfl
theorem lpre3_6 : eqR (lcPre ⟨envOf 11 [.d (.int 3), .d (.int 6)], none⟩) (ls3_0 (some (.fz (.int 6)))) = true := by decide +kernel
theorem lawc3_6 (p : Option PotSt) : D__law_counts [.d (.int 3), .d (.int 6)] p = some (.fr (.dict ld3_6), p) := by
  obtain ⟨e0, l0⟩ := llp3_0 [.int 1, .int 2, .int 3, .int 4, .int 5] (some (.fz (.int 6))) p
  obtain ⟨e1, l1⟩ := llp3_1 [.int 2, .int 3, .int 4, .int 5] e0 p
  obtain ⟨e2, l2⟩ := llp3_2 [.int 3, .int 4, .int 5] e1 p
  obtain ⟨e3, l3⟩ := llp3_3 [.int 4, .int 5] e2 p
  obtain ⟨e4, l4⟩ := llp3_4 [.int 5] e3 p
  obtain ⟨e5, l5⟩ := llp3_5 [] e4 p
  have hl : dForL (gVar 9) lcBody (rangeD 0 1 6) ⟨ls3_0 (some (.fz (.int 6))), p⟩ = some (.nx, ⟨ls3_6 e5, p⟩) := by
    rw [show rangeD 0 1 6 = [.int 0, .int 1, .int 2, .int 3, .int 4, .int 5] from rfl, l0, l1, l2, l3, l4, l5]; rfl
  exact lawc_of lpre3_6 (lcEnd_ok (m := 6) rfl rfl hl rfl) rfl
theorem lpre3_7 : eqR (lcPre ⟨envOf 11 [.d (.int 3), .d (.int 7)], none⟩) (ls3_0 (some (.fz (.int 7)))) = true := by decide +kernel
theorem lawc3_7 (p : Option PotSt) : D__law_counts [.d (.int 3), .d (.int 7)] p = some (.fr (.dict ld3_7), p) := by
  obtain ⟨e0, l0⟩ := llp3_0 [.int 1, .int 2, .int 3, .int 4, .int 5, .int 6] (some (.fz (.int 7))) p
  obtain ⟨e1, l1⟩ := llp3_1 [.int 2, .int 3, .int 4, .int 5, .int 6] e0 p
  obtain ⟨e2, l2⟩ := llp3_2 [.int 3, .int 4, .int 5, .int 6] e1 p
  obtain ⟨e3, l3⟩ := llp3_3 [.int 4, .int 5, .int 6] e2 p
  obtain ⟨e4, l4⟩ := llp3_4 [.int 5, .int 6] e3 p
  obtain ⟨e5, l5⟩ := llp3_5 [.int 6] e4 p
  obtain ⟨e6, l6⟩ := llp3_6 [] e5 p
  have hl : dForL (gVar 9) lcBody (rangeD 0 1 7) ⟨ls3_0 (some (.fz (.int 7))), p⟩ = some (.nx, ⟨ls3_7 e6, p⟩) := by
    rw [show rangeD 0 1 7 = [.int 0, .int 1, .int 2, .int 3, .int 4, .int 5, .int 6] from rfl, l0, l1, l2, l3, l4, l5, l6]; rfl
  exact lawc_of lpre3_7 (lcEnd_ok (m := 7) rfl rfl hl rfl) rfl
theorem lpre3_8 : eqR (lcPre ⟨envOf 11 [.d (.int 3), .d (.int 8)], none⟩) (ls3_0 (some (.fz (.int 8)))) = true := by decide +kernel
theorem lawc3_8 (p : Option PotSt) : D__law_counts [.d (.int 3), .d (.int 8)] p = some (.fr (.dict ld3_8), p) := by
  obtain ⟨e0, l0⟩ := llp3_0 [.int 1, .int 2, .int 3, .int 4, .int 5, .int 6, .int 7] (some (.fz (.int 8))) p
  obtain ⟨e1, l1⟩ := llp3_1 [.int 2, .int 3, .int 4, .int 5, .int 6, .int 7] e0 p
  obtain ⟨e2, l2⟩ := llp3_2 [.int 3, .int 4, .int 5, .int 6, .int 7] e1 p
  obtain ⟨e3, l3⟩ := llp3_3 [.int 4, .int 5, .int 6, .int 7] e2 p
  obtain ⟨e4, l4⟩ := llp3_4 [.int 5, .int 6, .int 7] e3 p
  obtain ⟨e5, l5⟩ := llp3_5 [.int 6, .int 7] e4 p
  obtain ⟨e6, l6⟩ := llp3_6 [.int 7] e5 p
  obtain ⟨e7, l7⟩ := llp3_7 [] e6 p
  have hl : dForL (gVar 9) lcBody (rangeD 0 1 8) ⟨ls3_0 (some (.fz (.int 8))), p⟩ = some (.nx, ⟨ls3_8 e7, p⟩) := by
    rw [show rangeD 0 1 8 = [.int 0, .int 1, .int 2, .int 3, .int 4, .int 5, .int 6, .int 7] from rfl, l0, l1, l2, l3, l4, l5, l6, l7]; rfl
  exact lawc_of lpre3_8 (lcEnd_ok (m := 8) rfl rfl hl rfl) rfl
theorem lpre3_9 : eqR (lcPre ⟨envOf 11 [.d (.int 3), .d (.int 9)], none⟩) (ls3_0 (some (.fz (.int 9)))) = true := by decide +kernel
theorem lawc3_9 (p : Option PotSt) : D__law_counts [.d (.int 3), .d (.int 9)] p = some (.fr (.dict ld3_9), p) := by
  obtain ⟨e0, l0⟩ := llp3_0 [.int 1, .int 2, .int 3, .int 4, .int 5, .int 6, .int 7, .int 8] (some (.fz (.int 9))) p
  obtain ⟨e1, l1⟩ := llp3_1 [.int 2, .int 3, .int 4, .int 5, .int 6, .int 7, .int 8] e0 p
  obtain ⟨e2, l2⟩ := llp3_2 [.int 3, .int 4, .int 5, .int 6, .int 7, .int 8] e1 p
  obtain ⟨e3, l3⟩ := llp3_3 [.int 4, .int 5, .int 6, .int 7, .int 8] e2 p
  obtain ⟨e4, l4⟩ := llp3_4 [.int 5, .int 6, .int 7, .int 8] e3 p
  obtain ⟨e5, l5⟩ := llp3_5 [.int 6, .int 7, .int 8] e4 p
  obtain ⟨e6, l6⟩ := llp3_6 [.int 7, .int 8] e5 p
  obtain ⟨e7, l7⟩ := llp3_7 [.int 8] e6 p
  obtain ⟨e8, l8⟩ := llp3_8 [] e7 p
  have hl : dForL (gVar 9) lcBody (rangeD 0 1 9) ⟨ls3_0 (some (.fz (.int 9))), p⟩ = some (.nx, ⟨ls3_9 e8, p⟩) := by
    rw [show rangeD 0 1 9 = [.int 0, .int 1, .int 2, .int 3, .int 4, .int 5, .int 6, .int 7, .int 8] from rfl, l0, l1, l2, l3, l4, l5, l6, l7, l8]; rfl
  exact lawc_of lpre3_9 (lcEnd_ok (m := 9) rfl rfl hl rfl) rfl
theorem lpre3_10 : eqR (lcPre ⟨envOf 11 [.d (.int 3), .d (.int 10)], none⟩) (ls3_0 (some (.fz (.int 10)))) = true := by decide +kernel
theorem lawc3_10 (p : Option PotSt) : D__law_counts [.d (.int 3), .d (.int 10)] p = some (.fr (.dict ld3_10), p) := by
  obtain ⟨e0, l0⟩ := llp3_0 [.int 1, .int 2, .int 3, .int 4, .int 5, .int 6, .int 7, .int 8, .int 9] (some (.fz (.int 10))) p
  obtain ⟨e1, l1⟩ := llp3_1 [.int 2, .int 3, .int 4, .int 5, .int 6, .int 7, .int 8, .int 9] e0 p
  obtain ⟨e2, l2⟩ := llp3_2 [.int 3, .int 4, .int 5, .int 6, .int 7, .int 8, .int 9] e1 p
  obtain ⟨e3, l3⟩ := llp3_3 [.int 4, .int 5, .int 6, .int 7, .int 8, .int 9] e2 p
  obtain ⟨e4, l4⟩ := llp3_4 [.int 5, .int 6, .int 7, .int 8, .int 9] e3 p
  obtain ⟨e5, l5⟩ := llp3_5 [.int 6, .int 7, .int 8, .int 9] e4 p
  obtain ⟨e6, l6⟩ := llp3_6 [.int 7, .int 8, .int 9] e5 p
  obtain ⟨e7, l7⟩ := llp3_7 [.int 8, .int 9] e6 p
  obtain ⟨e8, l8⟩ := llp3_8 [.int 9] e7 p
  obtain ⟨e9, l9⟩ := llp3_9 [] e8 p
  have hl : dForL (gVar 9) lcBody (rangeD 0 1 10) ⟨ls3_0 (some (.fz (.int 10))), p⟩ = some (.nx, ⟨ls3_10 e9, p⟩) := by
    rw [show rangeD 0 1 10 = [.int 0, .int 1, .int 2, .int 3, .int 4, .int 5, .int 6, .int 7, .int 8, .int 9] from rfl, l0, l1, l2, l3, l4, l5, l6, l7, l8, l9]; rfl
  exact lawc_of lpre3_10 (lcEnd_ok (m := 10) rfl rfl hl rfl) rfl
theorem lpre3_11 : eqR (lcPre ⟨envOf 11 [.d (.int 3), .d (.int 11)], none⟩) (ls3_0 (some (.fz (.int 11)))) = true := by decide +kernel
theorem lawc3_11 (p : Option PotSt) : D__law_counts [.d (.int 3), .d (.int 11)] p = some (.fr (.dict ld3_11), p) := by
  obtain ⟨e0, l0⟩ := llp3_0 [.int 1, .int 2, .int 3, .int 4, .int 5, .int 6, .int 7, .int 8, .int 9, .int 10] (some (.fz (.int 11))) p
  obtain ⟨e1, l1⟩ := llp3_1 [.int 2, .int 3, .int 4, .int 5, .int 6, .int 7, .int 8, .int 9, .int 10] e0 p
  obtain ⟨e2, l2⟩ := llp3_2 [.int 3, .int 4, .int 5, .int 6, .int 7, .int 8, .int 9, .int 10] e1 p
  obtain ⟨e3, l3⟩ := llp3_3 [.int 4, .int 5, .int 6, .int 7, .int 8, .int 9, .int 10] e2 p
  obtain ⟨e4, l4⟩ := llp3_4 [.int 5, .int 6, .int 7, .int 8, .int 9, .int 10] e3 p
  obtain ⟨e5, l5⟩ := llp3_5 [.int 6, .int 7, .int 8, .int 9, .int 10] e4 p
  obtain ⟨e6, l6⟩ := llp3_6 [.int 7, .int 8, .int 9, .int 10] e5 p
  obtain ⟨e7, l7⟩ := llp3_7 [.int 8, .int 9, .int 10] e6 p
  obtain ⟨e8, l8⟩ := llp3_8 [.int 9, .int 10] e7 p
  obtain ⟨e9, l9⟩ := llp3_9 [.int 10] e8 p
  obtain ⟨e10, l10⟩ := llp3_10 [] e9 p
  have hl : dForL (gVar 9) lcBody (rangeD 0 1 11) ⟨ls3_0 (some (.fz (.int 11))), p⟩ = some (.nx, ⟨ls3_11 e10, p⟩) := by
    rw [show rangeD 0 1 11 = [.int 0, .int 1, .int 2, .int 3, .int 4, .int 5, .int 6, .int 7, .int 8, .int 9, .int 10] from rfl, l0, l1, l2, l3, l4, l5, l6, l7, l8, l9, l10]; rfl
  exact lawc_of lpre3_11 (lcEnd_ok (m := 11) rfl rfl hl rfl) rfl
theorem lpre3_12 : eqR (lcPre ⟨envOf 11 [.d (.int 3), .d (.int 12)], none⟩) (ls3_0 (some (.fz (.int 12)))) = true := by decide +kernel
theorem lawc3_12 (p : Option PotSt) : D__law_counts [.d (.int 3), .d (.int 12)] p = some (.fr (.dict ld3_12), p) := by
  obtain ⟨e0, l0⟩ := llp3_0 [.int 1, .int 2, .int 3, .int 4, .int 5, .int 6, .int 7, .int 8, .int 9, .int 10, .int 11] (some (.fz (.int 12))) p
  obtain ⟨e1, l1⟩ := llp3_1 [.int 2, .int 3, .int 4, .int 5, .int 6, .int 7, .int 8, .int 9, .int 10, .int 11] e0 p
  obtain ⟨e2, l2⟩ := llp3_2 [.int 3, .int 4, .int 5, .int 6, .int 7, .int 8, .int 9, .int 10, .int 11] e1 p
  obtain ⟨e3, l3⟩ := llp3_3 [.int 4, .int 5, .int 6, .int 7, .int 8, .int 9, .int 10, .int 11] e2 p
  obtain ⟨e4, l4⟩ := llp3_4 [.int 5, .int 6, .int 7, .int 8, .int 9, .int 10, .int 11] e3 p
  obtain ⟨e5, l5⟩ := llp3_5 [.int 6, .int 7, .int 8, .int 9, .int 10, .int 11] e4 p
  obtain ⟨e6, l6⟩ := llp3_6 [.int 7, .int 8, .int 9, .int 10, .int 11] e5 p
  obtain ⟨e7, l7⟩ := llp3_7 [.int 8, .int 9, .int 10, .int 11] e6 p
  obtain ⟨e8, l8⟩ := llp3_8 [.int 9, .int 10, .int 11] e7 p
  obtain ⟨e9, l9⟩ := llp3_9 [.int 10, .int 11] e8 p
  obtain ⟨e10, l10⟩ := llp3_10 [.int 11] e9 p
  obtain ⟨e11, l11⟩ := llp3_11 [] e10 p
  have hl : dForL (gVar 9) lcBody (rangeD 0 1 12) ⟨ls3_0 (some (.fz (.int 12))), p⟩ = some (.nx, ⟨ls3_12 e11, p⟩) := by
    rw [show rangeD 0 1 12 = [.int 0, .int 1, .int 2, .int 3, .int 4, .int 5, .int 6, .int 7, .int 8, .int 9, .int 10, .int 11] from rfl, l0, l1, l2, l3, l4, l5, l6, l7, l8, l9, l10, l11]; rfl
  exact lawc_of lpre3_12 (lcEnd_ok (m := 12) rfl rfl hl rfl) rfl
end Rg
namespace Rg
open PySem L2
def m1 : DS := (dPar (dConsP (dOp opAdd (dLit (.int 1)) (dCallF D__law_draw 2 0 [0, 1] (dCons (dVar 1) (dCons (dLit (.int 3)) dNil)) dNil)) (dConsP (dCallF D__law_draw 2 0 [0, 1] (dCons (dVar 1) (dCons (dLit (.int 12)) dNil)) dNil) dNil)) (gsCons (gVar 3) (gsCons (gVar 4) gsNil)))
def m2 : DS := (dAsg (dCallF D__law_means 2 0 [0, 1] (dCons (dVar 3) (dCons (dVar 4) dNil)) dNil) (gTupD (gsCons (gVar 5) (gsCons (gVar 6) gsNil))))
def m3 : DS := (dAsg (dLst (dCons (dCallF D_kept_mean_behind 2 0 [0, 1] (dCons (dVar 3) (dCons (dVar 4) dNil)) dNil) (dCons (dCallF D_gap_behind 2 0 [0, 1] (dCons (dVar 3) (dCons (dVar 4) dNil)) dNil) dNil))) (gVar 7))
def m4 : DS := (dAsg (dLst (dCons (dCallF D_kept_mean_behind 0 2 [1, 0] dNil (dCons (dVar 4) (dCons (dVar 3) dNil))) (dCons (dCallF D_gap_behind 0 2 [1, 0] dNil (dCons (dVar 4) (dCons (dVar 3) dNil))) dNil))) (gVar 8))
def retF : DS := (dSeq (dRet (dLit (.bool false))) dNop)
def m5 : DS := (dIfS (dNeRepr (dLst (dCons (dVar 7) (dCons (dVar 8) dNil))) (dOp opMul (dLst (dCons (dLst (dCons (dVar 5) (dCons (dVar 6) dNil))) dNil)) (dLit (.int 2)))) retF dNop)
def m6 : DS := (dAsg (dCallF D_gap_behind 2 0 [0, 1] (dCons (dVar 3) (dCons (dOp opAdd (dVar 4) (dLit (.int 1))) dNil)) dNil) (gVar 9))
def m7 : DS := (dIfS (dOr (dAnd (fun s => asB (dOp opEq (dVar 3) (dLit (.int 3)) s)) (fun s => asB (dOp opGt (dOp opMul (dOp opIx (dVar 9) (dLit (.int 0))) (dOp opIx (dVar 6) (dLit (.int 1)))) (dOp opMul (dOp opIx (dVar 6) (dLit (.int 0))) (dOp opIx (dVar 9) (dLit (.int 1)))) s))) (dAnd (fun s => asB (dOp opLt (dVar 3) (dLit (.int 3)) s)) (fun s => asB (dOp opLt (dOp opMul (dLit (.int 2)) (dOp opIx (dVar 6) (dLit (.int 0)))) (dOp opIx (dVar 6) (dLit (.int 1))) s)))) retF dNop)
def m8 : DS := (dPar (dConsP (dOp opAdd (dVar 3) (dLit (.int 1))) (dConsP (dLit (.int 1)) dNil)) (gsCons (gVar 10) (gsCons (gVar 11) gsNil)))
def m9B : DS := (dSeq (dPar (dConsP (dOp opMul (dVar 10) (dOp opSub (dVar 3) (dLit (.int 1)))) (dConsP (dOp opMul (dVar 11) (dOp opAdd (dVar 3) (dLit (.int 1)))) dNil)) (gsCons (gVar 10) (gsCons (gVar 11) gsNil))) dNop)
def m9 : DS := (dFor (dRg1 (dCons (dVar 4) dNil)) (gVar 12) m9B)
def m10 : DS := (dIfS (fun s => asB (dOp opLt (dOp opMul (dOp opIx (dVar 5) (dLit (.int 0))) (dVar 11)) (dOp opMul (dVar 10) (dOp opIx (dVar 5) (dLit (.int 1)))) s)) retF dNop)
def mBody : DS := dSeq m1 (dSeq m2 (dSeq m3 (dSeq m4 (dSeq m5 (dSeq m6 (dSeq m7 (dSeq m8 (dSeq m9 (dSeq m10 dNop)))))))))
def n1 : DS := (dAsg (dCallF D__law_pick 2 0 [0, 1] (dCons (dVar 1) (dCons (dLst (dCons (dLit (.int 1)) (dCons (dLit (.int 3)) (dCons (dOp opAdd (dLit (.int 1)) (dCallF D__law_draw 2 0 [0, 1] (dCons (dVar 1) (dCons (dLit (.int 24)) dNil)) dNil)) (dCons (dLit (.int 24)) dNil))))) dNil)) dNil) (gVar 3))
def n2 : DS := (dPar (dConsP (dCallF D__law_draw 2 0 [0, 1] (dCons (dVar 1) (dCons (dOp opAdd (dVar 3) (dLit (.int 1))) dNil)) dNil) (dConsP (dLit (.int 0)) dNil)) (gsCons (gVar 13) (gsCons (gVar 14) gsNil)))
def n3T : DT := (dOr (fun s => asB (dOp opEq (dVar 15) (dVar 13) s)) (fun s => asB (dOp opEq (dVar 16) (dOp opSub (dVar 13) (dLit (.int 1))) s)))
def n3B : DS := (dSeq (dAsg (dOp opAdd (dVar 14) (dCallB opLen (dCons (dLc (dRg2 (dCons (dVar 15) (dCons (dVar 3) dNil))) (gVar 16) n3T (dVar 16) [16]) dNil))) (gVar 14)) dNop)
def n3 : DS := (dFor (dRg1 (dCons (dVar 3) dNil)) (gVar 15) n3B)
def n4 : DS := (dIfS (dOr (dNeRepr (dLst (dCons (dCallF D_cutting_turns 2 0 [0, 1] (dCons (dVar 3) (dCons (dVar 13) dNil)) dNil) (dCons (dCallF D_cutting_turns 0 2 [1, 0] dNil (dCons (dVar 13) (dCons (dVar 3) dNil))) dNil))) (dLst (dCons (dVar 14) (dCons (dVar 14) dNil)))) (fun s => asB (dOp opNe (dVar 14) (dVar 3) s))) retF dNop)
def nBody : DS := dSeq n1 (dSeq n2 (dSeq n3 (dSeq n4 dNop)))
theorem law_split : f_law = dSeq (dAsg (dMk D__law_deck 0) (gVar 1)) (dSeq (dFor (dRg1 (dCons (dLit (.int 2)) dNil)) (gVar 2) mBody) (dSeq (dFor (dRg1 (dCons (dLit (.int 4)) dNil)) (gVar 2) nBody) (dSeq (dRet (dLit (.bool true))) dNop))) := rfl
section
variable {e0 e1 e2 e3 e4 e5 e6 e7 e8 e9 e10 e11 e12 e13 e14 e15 e16 : Option Sl} {p : Option PotSt} {z z1 z2 : PotSt} {r1 r2 n m a b c d e f : Int}
theorem m1_ok (h1 : D__law_draw [.p, .d (.int 3)] (some z) = some (.fz (.int r1), some z1)) (h2 : D__law_draw [.p, .d (.int 12)] (some z1) = some (.fz (.int r2), some z2)) :
    m1 ⟨[e0, some .pt, e2, e3, e4, e5, e6, e7, e8, e9, e10, e11, e12, e13, e14, e15, e16], some z⟩ = some (.nx, ⟨[e0, some .pt, e2, some (.fz (.int (1 + r1))), some (.fz (.int r2)), e5, e6, e7, e8, e9, e10, e11, e12, e13, e14, e15, e16], some z2⟩) := by
  unfold m1
  generalize D__law_draw = D at *
  simp [dPar, dConsP, dOp, opAdd, dSet, dVar, dLit, settle, cont, dCallF, dCons, dNil, sel, callS, arsOf, arOf, h1, h2, keepsOwn, noSls, Vl.isSl, unsl, gsCons, gsNil, gVar, slOf, S.put, clean]
theorem m2_ok (h : D__law_means [.d (.int n), .d (.int m)] p = some (.fz (.tuple [tI [a, b], tI [c, d]]), p)) :
    m2 ⟨[e0, e1, e2, some (.fz (.int n)), some (.fz (.int m)), e5, e6, e7, e8, e9, e10, e11, e12, e13, e14, e15, e16], p⟩ = some (.nx, ⟨[e0, e1, e2, some (.fz (.int n)), some (.fz (.int m)), some (.fz (tI [a, b])), some (.fz (tI [c, d])), e7, e8, e9, e10, e11, e12, e13, e14, e15, e16], p⟩) := by
  have hc := callF_of (D := D__law_means) (n := 2) (m := 0) (ord := [0, 1]) (g := (dCons (dVar 3) (dCons (dVar 4) dNil))) (gk := dNil) (s := ⟨[e0, e1, e2, some (.fz (.int n)), some (.fz (.int m)), e5, e6, e7, e8, e9, e10, e11, e12, e13, e14, e15, e16], p⟩) rfl rfl ⟨rfl, rfl, rfl⟩ rfl h rfl
  unfold m2 dAsg
  rw [hc]
  rfl
theorem m3_ok (h : D_kept_mean_behind [.d (.int n), .d (.int m)] p = some (.fz (tI [a, b]), p)) (h2 : D_gap_behind [.d (.int n), .d (.int m)] p = some (.fz (tI [c, d]), p)) :
    m3 ⟨[e0, e1, e2, some (.fz (.int n)), some (.fz (.int m)), e5, e6, e7, e8, e9, e10, e11, e12, e13, e14, e15, e16], p⟩ = some (.nx, ⟨[e0, e1, e2, some (.fz (.int n)), some (.fz (.int m)), e5, e6, some (.own (.list [tI [a, b], tI [c, d]])), e8, e9, e10, e11, e12, e13, e14, e15, e16], p⟩) := by
  have hc := callF_of (D := D_kept_mean_behind) (n := 2) (m := 0) (ord := [0, 1]) (g := (dCons (dVar 3) (dCons (dVar 4) dNil))) (gk := dNil) (s := ⟨[e0, e1, e2, some (.fz (.int n)), some (.fz (.int m)), e5, e6, e7, e8, e9, e10, e11, e12, e13, e14, e15, e16], p⟩) rfl rfl ⟨rfl, rfl, rfl⟩ rfl h rfl
  have hd := callF_of (D := D_gap_behind) (n := 2) (m := 0) (ord := [0, 1]) (g := (dCons (dVar 3) (dCons (dVar 4) dNil))) (gk := dNil) (s := ⟨[e0, e1, e2, some (.fz (.int n)), some (.fz (.int m)), e5, e6, e7, e8, e9, e10, e11, e12, e13, e14, e15, e16], p⟩) rfl rfl ⟨rfl, rfl, rfl⟩ rfl h2 rfl
  have l2 : (2 : Nat) ≤ lim := by decide
  unfold m3
  generalize dCallF D_kept_mean_behind 2 0 [0, 1] (dCons (dVar 3) (dCons (dVar 4) dNil)) dNil = F at *
  generalize dCallF D_gap_behind 2 0 [0, 1] (dCons (dVar 3) (dCons (dVar 4) dNil)) dNil = G at *
  simp [dAsg, dLst, dCons, dNil, dSet, hc, hd, settle, frzAll, Vl.isFr, frz, l2, unsl, gVar, slOf, S.put]
theorem m4_ok (h : D_kept_mean_behind [.d (.int n), .d (.int m)] p = some (.fz (tI [a, b]), p)) (h2 : D_gap_behind [.d (.int n), .d (.int m)] p = some (.fz (tI [c, d]), p)) :
    m4 ⟨[e0, e1, e2, some (.fz (.int n)), some (.fz (.int m)), e5, e6, e7, e8, e9, e10, e11, e12, e13, e14, e15, e16], p⟩ = some (.nx, ⟨[e0, e1, e2, some (.fz (.int n)), some (.fz (.int m)), e5, e6, e7, some (.own (.list [tI [a, b], tI [c, d]])), e9, e10, e11, e12, e13, e14, e15, e16], p⟩) := by
  have hc := callF_of (D := D_kept_mean_behind) (n := 0) (m := 2) (ord := [1, 0]) (g := dNil) (gk := (dCons (dVar 4) (dCons (dVar 3) dNil))) (s := ⟨[e0, e1, e2, some (.fz (.int n)), some (.fz (.int m)), e5, e6, e7, e8, e9, e10, e11, e12, e13, e14, e15, e16], p⟩) rfl rfl ⟨rfl, rfl, rfl⟩ rfl h rfl
  have hd := callF_of (D := D_gap_behind) (n := 0) (m := 2) (ord := [1, 0]) (g := dNil) (gk := (dCons (dVar 4) (dCons (dVar 3) dNil))) (s := ⟨[e0, e1, e2, some (.fz (.int n)), some (.fz (.int m)), e5, e6, e7, e8, e9, e10, e11, e12, e13, e14, e15, e16], p⟩) rfl rfl ⟨rfl, rfl, rfl⟩ rfl h2 rfl
  have l2 : (2 : Nat) ≤ lim := by decide
  unfold m4
  generalize dCallF D_kept_mean_behind 0 2 [1, 0] dNil (dCons (dVar 4) (dCons (dVar 3) dNil)) = F at *
  generalize dCallF D_gap_behind 0 2 [1, 0] dNil (dCons (dVar 4) (dCons (dVar 3) dNil)) = G at *
  simp [dAsg, dLst, dCons, dNil, dSet, hc, hd, settle, frzAll, Vl.isFr, frz, l2, unsl, gVar, slOf, S.put]
theorem m5_ok {x y : PyData} (hs : canShow (.list [.list [x, y], .list [x, y]]) = true) :
    m5 ⟨[e0, e1, e2, e3, e4, some (.fz x), some (.fz y), some (.own (.list [x, y])), some (.own (.list [x, y])), e9, e10, e11, e12, e13, e14, e15, e16], p⟩ = some (.nx, ⟨[e0, e1, e2, e3, e4, some (.fz x), some (.fz y), some (.fz (.list [x, y])), some (.fz (.list [x, y])), e9, e10, e11, e12, e13, e14, e15, e16], p⟩) := by
  have hd := deq_self (.list [.list [x, y], .list [x, y]])
  have l2 : (2 : Nat) ≤ lim := by decide
  have l1 : (1 : Nat) ≤ lim := by decide
  have s2 : small 2 = true := by decide
  unfold m5
  simp [dIfS, dNeRepr, dSet, dLst, dCons, dNil, dVar, dLit, settle, Vl.isFr, frzAll, frz, S.put, l1, l2, dOp, cont, opMul, hs, hd, isSeq, dNop, List.replicate]
theorem m6_ok (h2 : D_gap_behind [.d (.int n), .d (.int (m + 1))] p = some (.fz (tI [e, f]), p)) :
    m6 ⟨[e0, e1, e2, some (.fz (.int n)), some (.fz (.int m)), e5, e6, e7, e8, e9, e10, e11, e12, e13, e14, e15, e16], p⟩ = some (.nx, ⟨[e0, e1, e2, some (.fz (.int n)), some (.fz (.int m)), e5, e6, e7, e8, some (.fz (tI [e, f])), e10, e11, e12, e13, e14, e15, e16], p⟩) := by
  have hc := callF_of (D := D_gap_behind) (n := 2) (m := 0) (ord := [0, 1]) (g := (dCons (dVar 3) (dCons (dOp opAdd (dVar 4) (dLit (.int 1))) dNil))) (gk := dNil) (s := ⟨[e0, e1, e2, some (.fz (.int n)), some (.fz (.int m)), e5, e6, e7, e8, e9, e10, e11, e12, e13, e14, e15, e16], p⟩) rfl rfl ⟨rfl, rfl, rfl⟩ rfl h2 rfl
  unfold m6 dAsg
  rw [hc]
  rfl
theorem ix0 {a b : Int} : opIx (tI [a, b]) (.int 0) = some (.fz (.int a)) := rfl
theorem ix1 {a b : Int} : opIx (tI [a, b]) (.int 1) = some (.fz (.int b)) := rfl
theorem mul_ii {a b : Int} (h : small a = true) : opMul (.int a) (.int b) = some (.fz (.int (a * b))) := by unfold opMul; simp [h]
theorem m7_ok (sc : small c = true) (se : small e = true) (h1 : ¬ (n = 3 ∧ e * d > c * f)) (h2 : ¬ (n < 3 ∧ 2 * c < d)) :
    m7 ⟨[e0, e1, e2, some (.fz (.int n)), e4, e5, some (.fz (tI [c, d])), e7, e8, some (.fz (tI [e, f])), e10, e11, e12, e13, e14, e15, e16], p⟩ = some (.nx, ⟨[e0, e1, e2, some (.fz (.int n)), e4, e5, some (.fz (tI [c, d])), e7, e8, some (.fz (tI [e, f])), e10, e11, e12, e13, e14, e15, e16], p⟩) := by
  have s2 : small 2 = true := by decide
  have q1 : ∀ i j : Int, opGt (.int i) (.int j) = some (.fz (.bool (decide (i > j)))) := fun i j => rfl
  have q2 : ∀ i j : Int, opLt (.int i) (.int j) = some (.fz (.bool (decide (i < j)))) := fun i j => rfl
  unfold m7
  by_cases hn : n = 3
  · subst hn
    have g1 : ¬ e * d > c * f := fun h => h1 ⟨rfl, h⟩
    simp [dIfS, dOr, dAnd, dOp, dSet, dVar, dLit, settle, cont, opEq_ii, ix0, ix1, mul_ii sc, mul_ii se, mul_ii s2, q1, q2, asB, g1, dNop]
  · by_cases hn2 : n < 3
    · have g2 : ¬ 2 * c < d := fun h => h2 ⟨hn2, h⟩
      simp [dIfS, dOr, dAnd, dOp, dSet, dVar, dLit, settle, cont, opEq_ii, ix0, ix1, mul_ii sc, mul_ii se, mul_ii s2, q1, q2, asB, hn, hn2, g2, dNop]
    · simp [dIfS, dOr, dAnd, dOp, dSet, dVar, dLit, settle, cont, opEq_ii, ix0, ix1, mul_ii sc, mul_ii se, mul_ii s2, q1, q2, asB, hn, hn2, dNop]
theorem m8_ok : m8 ⟨[e0, e1, e2, some (.fz (.int n)), e4, e5, e6, e7, e8, e9, e10, e11, e12, e13, e14, e15, e16], p⟩ = some (.nx, ⟨[e0, e1, e2, some (.fz (.int n)), e4, e5, e6, e7, e8, e9, some (.fz (.int (n + 1))), some (.fz (.int 1)), e12, e13, e14, e15, e16], p⟩) := rfl
def m9g (n : Int) (q : Int × Int) (_ : Nat) : Int × Int := (q.1 * (n - 1), q.2 * (n + 1))
theorem m9_ok {m : Nat} (hm : m ≤ 1000) (s1 : small (n - 1) = true) (s2 : small (n + 1) = true) {a b : Int} : ∃ e12', m9 ⟨[e0, e1, e2, some (.fz (.int n)), some (.fz (.int m)), e5, e6, e7, e8, e9, some (.fz (.int a)), some (.fz (.int b)), e12, e13, e14, e15, e16], p⟩ =
    some (.nx, ⟨[e0, e1, e2, some (.fz (.int n)), some (.fz (.int m)), e5, e6, e7, e8, e9, some (.fz (.int ((List.range m).foldl (m9g n) (a, b)).1)), some (.fz (.int ((List.range m).foldl (m9g n) (a, b)).2)), e12', e13, e14, e15, e16], p⟩) := by
  obtain ⟨j', h1, _, _⟩ := forL_fold (pg := gVar 12) (b := m9B) (enc := fun i : Nat => .int (i : Int)) (E := fun (q : Int × Int) (j : Option Sl) => ⟨[e0, e1, e2, some (.fz (.int n)), some (.fz (.int m)), e5, e6, e7, e8, e9, some (.fz (.int q.1)), some (.fz (.int q.2)), j, e13, e14, e15, e16], p⟩) (g := m9g n) (I := fun _ _ => True) (K := fun _ => True) (List.range m) (a := (a, b)) (j := e12) trivial trivial fun i q j x hx hi _ => by
    refine ⟨⟨[e0, e1, e2, some (.fz (.int n)), some (.fz (.int m)), e5, e6, e7, e8, e9, some (.fz (.int q.1)), some (.fz (.int q.2)), some (.fz (.int x)), e13, e14, e15, e16], p⟩, some (.fz (.int x)), rfl, ?_, trivial, trivial⟩
    simp [m9B, m9g, dSeq, dPar, dConsP, dNil, dOp, dSet, dVar, dLit, settle, cont, opSub, opAdd, opMul, s1, s2, noSls, Vl.isSl, unsl, gsCons, gsNil, gVar, slOf, S.put, dNop]
  exact ⟨j', for_of (rg1_of rfl (by omega)) h1⟩
theorem m10_ok {g h : Int} (sa : small a = true) (sb : small b = true) (h1 : ¬ a * h < g * b) :
    m10 ⟨[e0, e1, e2, e3, e4, some (.fz (tI [a, b])), e6, e7, e8, e9, some (.fz (.int g)), some (.fz (.int h)), e12, e13, e14, e15, e16], p⟩ = some (.nx, ⟨[e0, e1, e2, e3, e4, some (.fz (tI [a, b])), e6, e7, e8, e9, some (.fz (.int g)), some (.fz (.int h)), e12, e13, e14, e15, e16], p⟩) := by
  have q2 : ∀ i j : Int, opLt (.int i) (.int j) = some (.fz (.bool (decide (i < j)))) := fun i j => rfl
  have q3 : opMul (.int g) (.int b) = some (.fz (.int (g * b))) := by unfold opMul; simp [sb]
  unfold m10
  simp [dIfS, dOp, dSet, dVar, dLit, settle, cont, ix0, ix1, mul_ii sa, q3, q2, asB, dNop]
  rw [decide_eq_false h1]
end
end Rg
namespace Rg
open PySem L2
def pP (x : Nat × Nat) : PyData := .tuple [.int x.1, .int x.2]
def turnsF (n : Nat) : List (Nat × Nat) := (List.range n).foldl (fun a b => a ++ (List.range' b (n - b)).map (fun e => (b, e))) []
def atBody : DS := (dSeq (dExpr (dMut "list" opExtend (dVar 1) (dCons (dLc (dRg2 (dCons (dVar 2) (dCons (dVar 0) dNil))) (gVar 3) dYes (dTup (dCons (dVar 2) (dCons (dVar 3) dNil))) [3]) dNil))) dNop)
theorem at_split : f_all_turns = dSeq (dAsg (dLst dNil) (gVar 1)) (dSeq (dFor (dRg1 (dCons (dVar 0) dNil)) (gVar 2) atBody) (dSeq (dRet (dVar 1)) dNop)) := rfl
theorem at_comp {n b : Nat} (hn : n ≤ 1000) (hb : b < n) {e1 : Option Sl} {p : Option PotSt} : dLc (dRg2 (dCons (dVar 2) (dCons (dVar 0) dNil))) (gVar 3) dYes (dTup (dCons (dVar 2) (dCons (dVar 3) dNil))) [3] ⟨[some (.fz (.int n)), e1, some (.fz (.int b)), none], p⟩ =
    some (.fr (.list (((List.range' b (n - b)).map (fun e => (b, e))).map pP)), ⟨[some (.fz (.int n)), e1, some (.fz (.int b)), none], p⟩) := by
  have h1 := lc_of (fi := dRg2 (dCons (dVar 2) (dCons (dVar 0) dNil))) (p := gVar 3) (tt := dYes) (te := dTup (dCons (dVar 2) (dCons (dVar 3) dNil))) (vs := [3]) (s := ⟨[some (.fz (.int n)), e1, some (.fz (.int b)), none], p⟩) (t := fun _ => true) (f := fun e => pP (b, e)) (rg2_of rfl rfl (by omega) (by omega)) rfl (fun x hx => ⟨_, _, rfl, rfl, fun h => (nomatch h), fun _ => ⟨_, _, _, rfl, rfl, rfl⟩⟩) (le_lim (by rw [List.length_range']; omega))
  rw [filter_yes] at h1
  rw [List.map_map]
  exact h1
theorem all_turns_ok {n : Nat} (hn : n ≤ 900) (p : Option PotSt) : D_all_turns [.d (.int n)] p = some (.fr (.list ((turnsF n).map pP)), p) := by
  obtain ⟨j', h1, h2, _⟩ := forL_fold (pg := gVar 2) (b := atBody) (enc := fun i : Nat => .int (i : Int)) (E := fun (a : List (Nat × Nat)) (j : Option Sl) => ⟨[some (.fz (.int n)), some (.own (.list (a.map pP))), j, none], p⟩) (g := fun a b => a ++ (List.range' b (n - b)).map (fun e => (b, e))) (I := fun i a => a.length ≤ i * n) (K := fun _ => True) (List.range n) (a := []) (j := none) (by simp) trivial fun i a j x hx hi _ => by
    have hx2 := List.mem_range.mp (List.mem_of_getElem? hx)
    obtain ⟨hi2, _⟩ := List.getElem?_eq_some_iff.mp hx
    rw [List.length_range] at hi2
    have hc := at_comp (n := n) (b := x) (by omega) hx2 (e1 := some (.own (.list (a.map pP)))) (p := p)
    have hin : i * n ≤ 900 * 900 := Nat.mul_le_mul (by omega) hn
    refine ⟨⟨[some (.fz (.int n)), some (.own (.list (a.map pP))), some (.fz (.int x)), none], p⟩, some (.fz (.int x)), rfl, ?_, ?_, trivial⟩
    · have hm := mut_extend (i := 1) (s := ⟨[some (.fz (.int n)), some (.own (.list (a.map pP))), some (.fz (.int x)), none], p⟩) rfl (one_arg (set_fr hc)) (le_lim (by rw [List.length_map, List.length_map, List.length_map, List.length_range']; omega))
      rw [← List.map_append] at hm
      exact seq_last (expr_nx hm)
    · rw [List.length_append, List.length_map, List.length_range', Nat.add_mul]
      omega
  unfold D_all_turns runDef
  have h3 := for_of (fi := dRg1 (dCons (dVar 0) dNil)) (s := ⟨[some (.fz (.int n)), some (.own (.list [])), none, none], p⟩) (rg1_of rfl (by omega)) h1
  have h4 : dAsg (dLst dNil) (gVar 1) ⟨envOf 4 [.d (.int n)], p⟩ = some (.nx, ⟨[some (.fz (.int n)), some (.own (.list [])), none, none], p⟩) := rfl
  rw [at_split, seq_nx h4, seq_nx h3]
  simp [dSeq, dRet, dVar, leave, samePot_self', turnsF]
end Rg
namespace Rg
open PySem L2
theorem pick_ok {rows : List PyData} (h2 : 2 ≤ rows.length) (hb : rows.length < 1000) {z : PotSt} (hz : Good z) : ∃ r ∈ rows, ∃ z', Good z' ∧ D__law_pick [.p, .d (.list rows)] (some z) = some (.fz r, some z') := by
  obtain ⟨g0, g1, _⟩ := drawA_range z rows.length
  have g1 := g1 (by omega)
  have hd := draw_ok rows.length (by omega) z hz
  have hg := drawA_good z rows.length hz
  generalize drawA z rows.length = q at *
  obtain ⟨i, z'⟩ := q
  dsimp only at *
  obtain ⟨k, rfl⟩ := Int.eq_ofNat_of_zero_le g0
  have hk : k < rows.length := by omega
  have ha : opIx (.list rows) (.int k) = some (.fz rows[k]) := by
    unfold opIx atI
    simp [ixN, hk]
  refine ⟨rows[k], List.getElem_mem hk, z', hg, ?_⟩
  rw [D__law_pick]
  unfold runDef
  rw [f__law_pick]
  generalize D__law_draw = D at *
  simp [envOf, slAr, dSeq, dRet, dOp, dCallF, dCallB, opLen, dCons, dNil, dSet, dVar, settle, conts, cont, sel, callS, arsOf, arOf, hd, keepsOwn, noSls, Vl.isSl, ha, leave, samePot]
end Rg
namespace Rg
open PySem L2
def cutT (pl : Nat) (x : Nat × Nat) : Bool := decide ((x.1 : Int) = (pl : Int)) || decide ((x.2 : Int) = (pl : Int) - 1)
def cutTT : DT := (dOr (fun s => asB (dOp opEq (dVar 2) (dVar 1) s)) (fun s => asB (dOp opEq (dVar 3) (dOp opSub (dVar 1) (dLit (.int 1))) s)))
theorem cut_split : f_cutting_turns = (dSeq (dRet (dCallB opLen (dCons (dLc (dAny (dCallF D_all_turns 1 0 [0] (dCons (dVar 0) dNil) dNil)) (gTupD (gsCons (gVar 2) (gsCons (gVar 3) gsNil))) cutTT (dLit (.int 1)) [2, 3]) dNil))) dNop) := rfl
theorem turnsF_len {n : Nat} (hn : n ≤ 900) : (turnsF n).length ≤ 900 * 900 := by
  have key : ∀ (l : List Nat) (a : List (Nat × Nat)), (l.foldl (fun a b => a ++ (List.range' b (n - b)).map (fun e => (b, e))) a).length ≤ a.length + l.length * 900 := by
    intro l
    induction l with
    | nil => intro a; simp
    | cons b l ih =>
      intro a
      have := ih (a ++ (List.range' b (n - b)).map (fun e => (b, e)))
      rw [List.length_append, List.length_map, List.length_range'] at this
      rw [List.foldl_cons, List.length_cons, Nat.add_mul]
      omega
  have := key (List.range n) []
  rw [List.length_range, List.length_nil] at this
  unfold turnsF
  have h2 : n * 900 ≤ 900 * 900 := Nat.mul_le_mul hn (Nat.le_refl _)
  omega
theorem cutTT_ok {n pl : Nat} {x : Nat × Nat} {p : Option PotSt} : cutTT ⟨[some (.fz (.int n)), some (.fz (.int pl)), some (.fz (.int x.1)), some (.fz (.int x.2))], p⟩ = some (cutT pl x, ⟨[some (.fz (.int n)), some (.fz (.int pl)), some (.fz (.int x.1)), some (.fz (.int x.2))], p⟩) := by
  unfold cutTT cutT
  by_cases h : (x.1 : Int) = (pl : Int) <;> simp [dOr, dOp, dSet, dVar, dLit, settle, cont, opEq_ii, opSub, asB, h]
theorem len_list {ds : List PyData} : opLen [.list ds] = some (.fz (.int ds.length)) := rfl
theorem cut_any {n pl : Nat} (hn : n ≤ 900) (p : Option PotSt) : dAny (dCallF D_all_turns 1 0 [0] (dCons (dVar 0) dNil) dNil) ⟨[some (.fz (.int n)), some (.fz (.int pl)), none, none], p⟩ = some ((turnsF n).map pP, ⟨[some (.fz (.int n)), some (.fz (.int pl)), none, none], p⟩) :=
  any_fr (call1 (x := .fz (.int n)) (s1 := ⟨[some (.fz (.int n)), some (.fz (.int pl)), none, none], p⟩) rfl rfl (all_turns_ok hn p) rfl)
theorem cut_len0 {fi : DI} {l : List (Nat × Nat)} {n pl : Nat} {p : Option PotSt} (h1 : fi ⟨[some (.fz (.int n)), some (.fz (.int pl)), none, none], p⟩ = some (l.map pP, ⟨[some (.fz (.int n)), some (.fz (.int pl)), none, none], p⟩)) (hl : l.length ≤ lim) :
    dCallB opLen (dCons (dLc fi (gTupD (gsCons (gVar 2) (gsCons (gVar 3) gsNil))) cutTT (dLit (.int 1)) [2, 3]) dNil) ⟨[some (.fz (.int n)), some (.fz (.int pl)), none, none], p⟩ = some (.fz (.int (l.filter (cutT pl)).length), ⟨[some (.fz (.int n)), some (.fz (.int pl)), none, none], p⟩) := by
  have h2 := lc_of (fi := fi) (p := (gTupD (gsCons (gVar 2) (gsCons (gVar 3) gsNil)))) (tt := cutTT) (te := dLit (.int 1)) (vs := [2, 3]) (t := cutT pl) (f := fun _ => .int 1) h1 rfl
    (fun x hx => ⟨_, _, rfl, cutTT_ok, fun _ => rfl, fun _ => ⟨_, _, _, rfl, rfl, rfl⟩⟩) hl
  have h3 := callB_of (op := opLen) (one_arg (set_fr h2)) rfl len_list
  rw [List.length_map] at h3
  exact h3
theorem cutting_ok {n pl : Nat} (hn : n ≤ 900) (p : Option PotSt) : D_cutting_turns [.d (.int n), .d (.int pl)] p = some (.fz (.int ((turnsF n).filter (cutT pl)).length), p) := by
  rw [D_cutting_turns]
  refine def_fz (E := [some (.fz (.int n)), some (.fz (.int pl)), none, none]) (E0 := [some (.fz (.int n)), some (.fz (.int pl)), none, none]) rfl rfl ?_
  rw [cut_split]
  exact ret_fz (cut_len0 (cut_any hn p) (le_lim (Nat.le_trans (turnsF_len hn) (by decide))))
/-- the law's own count -/
def dueF (n pl : Nat) : Nat := (List.range n).foldl (fun a b => a + ((List.range' b (n - b)).filter fun e => cutT pl (b, e)).length) 0
section
variable {e0 e1 e2 e3 e4 e5 e6 e7 e8 e9 e10 e11 e12 e13 e14 e15 e16 : Option Sl} {p : Option PotSt}
theorem n3T_ok {b e pl : Nat} : n3T ⟨[e0, e1, e2, e3, e4, e5, e6, e7, e8, e9, e10, e11, e12, some (.fz (.int pl)), e14, some (.fz (.int b)), some (.fz (.int e))], p⟩ = some (cutT pl (b, e), ⟨[e0, e1, e2, e3, e4, e5, e6, e7, e8, e9, e10, e11, e12, some (.fz (.int pl)), e14, some (.fz (.int b)), some (.fz (.int e))], p⟩) := by
  unfold n3T cutT
  by_cases h : (b : Int) = (pl : Int) <;> simp [dOr, dOp, dSet, dVar, dLit, settle, cont, opEq_ii, opSub, asB, h]
theorem n3B_ok {n b pl d : Nat} (hn : n ≤ 1000) (hb : b < n) (h16 : e16 = none) : n3B ⟨[e0, e1, e2, some (.fz (.int n)), e4, e5, e6, e7, e8, e9, e10, e11, e12, some (.fz (.int pl)), some (.fz (.int d)), some (.fz (.int b)), e16], p⟩ = some (.nx, ⟨[e0, e1, e2, some (.fz (.int n)), e4, e5, e6, e7, e8, e9, e10, e11, e12, some (.fz (.int pl)), some (.fz (.int ((d + ((List.range' b (n - b)).filter fun e => cutT pl (b, e)).length : Nat) : Int))), some (.fz (.int b)), e16], p⟩) := by
  subst h16
  have h2 := lc_of (fi := dRg2 (dCons (dVar 15) (dCons (dVar 3) dNil))) (p := gVar 16) (tt := n3T) (te := dVar 16) (vs := [16]) (s := ⟨[e0, e1, e2, some (.fz (.int n)), e4, e5, e6, e7, e8, e9, e10, e11, e12, some (.fz (.int pl)), some (.fz (.int d)), some (.fz (.int b)), none], p⟩) (t := fun e => cutT pl (b, e)) (f := fun e => .int (e : Nat)) (rg2_of rfl rfl (by omega) (by omega)) rfl
    (fun x hx => ⟨_, _, rfl, n3T_ok, fun _ => rfl, fun _ => ⟨_, _, _, rfl, rfl, rfl⟩⟩) (le_lim (by rw [List.length_range']; omega))
  have h3 := callB_of (op := opLen) (one_arg (set_fr h2)) rfl len_list
  rw [List.length_map] at h3
  have h4 := op_of (op := opAdd) (fa := dVar 14) (x := .fz (.int d)) (s := ⟨[e0, e1, e2, some (.fz (.int n)), e4, e5, e6, e7, e8, e9, e10, e11, e12, some (.fz (.int pl)), some (.fz (.int d)), some (.fz (.int b)), none], p⟩) rfl (set_fz h3) rfl rfl rfl
  unfold n3B
  refine seq_last ?_
  generalize dOp opAdd (dVar 14) (dCallB opLen (dCons (dLc (dRg2 (dCons (dVar 15) (dCons (dVar 3) dNil))) (gVar 16) n3T (dVar 16) [16]) dNil)) = G at *
  rw [Int.natCast_add]
  exact asg_of h4 rfl rfl
theorem n3_loop {n pl : Nat} (hn : n ≤ 1000) (h16 : e16 = none) : ∃ e15', dForL (gVar 15) n3B ((List.range n).map fun i : Nat => .int (i : Int)) ⟨[e0, e1, e2, some (.fz (.int n)), e4, e5, e6, e7, e8, e9, e10, e11, e12, some (.fz (.int pl)), some (.fz (.int ((0 : Nat) : Int))), e15, e16], p⟩ = some (.nx, ⟨[e0, e1, e2, some (.fz (.int n)), e4, e5, e6, e7, e8, e9, e10, e11, e12, some (.fz (.int pl)), some (.fz (.int (dueF n pl : Nat))), e15', e16], p⟩) := by
  obtain ⟨j', h1, _, _⟩ := forL_fold (pg := gVar 15) (b := n3B) (enc := fun i : Nat => .int (i : Int)) (E := fun (d : Nat) (j : Option Sl) => ⟨[e0, e1, e2, some (.fz (.int n)), e4, e5, e6, e7, e8, e9, e10, e11, e12, some (.fz (.int pl)), some (.fz (.int d)), j, e16], p⟩) (g := fun a b => a + ((List.range' b (n - b)).filter fun e => cutT pl (b, e)).length) (I := fun _ _ => True) (K := fun _ => True) (List.range n) (a := 0) (j := e15) trivial trivial fun i d j x hx _ _ =>
    ⟨⟨[e0, e1, e2, some (.fz (.int n)), e4, e5, e6, e7, e8, e9, e10, e11, e12, some (.fz (.int pl)), some (.fz (.int d)), some (.fz (.int x)), e16], p⟩, some (.fz (.int x)), rfl, n3B_ok hn (List.mem_range.mp (List.mem_of_getElem? hx)) h16, trivial, trivial⟩
  exact ⟨j', h1⟩
theorem n3_ok {n pl : Nat} (hn : n ≤ 1000) (h16 : e16 = none) : ∃ e15', n3 ⟨[e0, e1, e2, some (.fz (.int n)), e4, e5, e6, e7, e8, e9, e10, e11, e12, some (.fz (.int pl)), some (.fz (.int 0)), e15, e16], p⟩ = some (.nx, ⟨[e0, e1, e2, some (.fz (.int n)), e4, e5, e6, e7, e8, e9, e10, e11, e12, some (.fz (.int pl)), some (.fz (.int (dueF n pl : Nat))), e15', e16], p⟩) := by
  obtain ⟨j', h1⟩ := n3_loop (e0 := e0) (e1 := e1) (e2 := e2) (e4 := e4) (e5 := e5) (e6 := e6) (e7 := e7) (e8 := e8) (e9 := e9) (e10 := e10) (e11 := e11) (e12 := e12) (e15 := e15) (p := p) (pl := pl) hn h16
  exact ⟨j', for_of (rg1_of rfl (by omega)) h1⟩
theorem n4_ok {n pl : Int} {d : Int} (h : D_cutting_turns [.d (.int n), .d (.int pl)] p = some (.fz (.int d), p)) (hd : d = n) (hs : canShow (.list [.int d, .int d]) = true) :
    n4 ⟨[e0, e1, e2, some (.fz (.int n)), e4, e5, e6, e7, e8, e9, e10, e11, e12, some (.fz (.int pl)), some (.fz (.int d)), e15, e16], p⟩ = some (.nx, ⟨[e0, e1, e2, some (.fz (.int n)), e4, e5, e6, e7, e8, e9, e10, e11, e12, some (.fz (.int pl)), some (.fz (.int d)), e15, e16], p⟩) := by
  subst hd
  have q := deq_self (.list [.int d, .int d])
  have l2 : (2 : Nat) ≤ lim := by decide
  unfold n4
  generalize D_cutting_turns = D at *
  simp [dIfS, dOr, dNeRepr, dSet, dLst, dCons, dNil, dCallF, dVar, dLit, settle, sel, callS, arsOf, arOf, h, keepsOwn, noSls, Vl.isSl, Vl.isFr, frzAll, frz, l2, cont, hs, q, isSeq, dOp, opNe_ii, asB, dNop]
end
end Rg
namespace Rg
open PySem L2
def eqW (r : Option (Out × S)) (v : PyData) : Bool := match r with
  | some (.rt (.fz d), ⟨_, none⟩) => deq d v
  | _ => false
theorem of_eqW {r : Option (Out × S)} {v : PyData} (h : eqW r v = true) : ∃ E, r = some (.rt (.fz v), ⟨E, none⟩) := by
  unfold eqW at h
  split at h
  · rw [eq_of_deq _ _ h]; exact ⟨_, rfl⟩
  · cases h
theorem two_call {N : Nat} {D : DF} {B : DS} {n m : Int} {x : Vl} {y : Sl} {C v : PyData} {R : List (Option Sl)} (hE : envOf N [.d (.int n), .d (.int m)] = some (.fz (.int n)) :: some (.fz (.int m)) :: none :: R) (hx : (x = .fz C ∧ y = .fz C) ∨ (x = .fr C ∧ y = .own C))
    (hc : ∀ p, D [.d (.int n), .d (.int m)] p = some (x, p)) (hr : ∀ p, Rel [] none p B) (h : eqW (B ⟨some (.fz (.int n)) :: some (.fz (.int m)) :: some y :: R, none⟩) v = true) (p : Option PotSt) :
    runDef N 2 (dSeq (dAsg (dCallF D 2 0 [0, 1] (dCons (dVar 0) (dCons (dVar 1) dNil)) dNil) (gVar 2)) B) [.d (.int n), .d (.int m)] p = some (.fz v, p) := by
  obtain ⟨E, h1⟩ := of_eqW h
  have h2 := (hr p).pot h1
  refine def_fz (E := E) rfl hE ?_
  rcases hx with ⟨rfl, rfl⟩ | ⟨rfl, rfl⟩
  · have hcall := call2 (D := D) (f := dVar 0) (g := dVar 1) (s := ⟨some (.fz (.int n)) :: some (.fz (.int m)) :: none :: R, p⟩) rfl rfl rfl rfl (hc p) rfl
    rw [seq_nx (asg_of hcall rfl rfl)]
    exact h2
  · have hcall := call2 (D := D) (f := dVar 0) (g := dVar 1) (s := ⟨some (.fz (.int n)) :: some (.fz (.int m)) :: none :: R, p⟩) rfl rfl rfl rfl (hc p) rfl
    rw [seq_nx (asg_of hcall rfl rfl)]
    exact h2
def wtB : DS := (dSeq (dRet (dCallB opTuple (dCons (dLc (dAny (dCallF D_all_rows 1 0 [0] (dCons (dVar 0) dNil) dNil)) (gVar 3) dYes (dMet "dict" opGet (dVar 2) (dCons (dVar 3) (dCons (dLit (.int 0)) dNil))) [3]) dNil)))
  dNop)
theorem wt_split : f_ways_to = dSeq (dAsg (dCallF D_counts_behind 2 0 [0, 1] (dCons (dVar 0) (dCons (dVar 1) dNil)) dNil) (gVar 2)) wtB := rfl
theorem rel_wtB {p q : Option PotSt} : Rel [] p q wtB := by
  unfold wtB
  repeat' first | refine rd_while ?_ ?_ _ | exact rd_nop | exact re_lit | exact re_empty | exact rt_yes | exact rs_nil | exact rgs_nil | exact ro_no | exact rg_var | exact re_var | refine rd_seq ?_ ?_ | refine rd_asg ?_ ?_ | refine rd_expr ?_ | refine rd_if ?_ ?_ ?_ | refine rd_ret ?_ | refine rd_par ?_ ?_ | refine rd_for ?_ ?_ ?_ | refine rg_tup ?_ | refine rg_ix ?_ ?_ | refine rgs_cons ?_ ?_ | refine ri_any ?_ | refine ri_items ?_ | refine ri_rg1 ?_ | refine ri_rg2 ?_ | refine ri_enum ?_ | refine re_lc ?_ ?_ ?_ ?_ | refine rs_cons ?_ ?_ | refine rs_consP ?_ ?_ | refine re_tup ?_ | refine re_lst ?_ | refine re_disp1 ?_ ?_ | refine re_rgT2 ?_ ?_ | refine re_slice ?_ ?_ ?_ | refine re_rev ?_ | refine ro_part ?_ | refine re_mut ?_ ?_ | refine re_val ?_ | refine rt_bool ?_ | refine rt_and ?_ ?_ | refine rt_neRepr ?_ ?_ | refine rt_asB ?_ | refine re_if ?_ ?_ ?_ | refine re_op ns_opAdd ?_ ?_ | refine re_op ns_opSub ?_ ?_ | refine re_op ns_opMul ?_ ?_ | refine re_op ns_opFDiv ?_ ?_ | refine re_op ns_opMod ?_ ?_ | refine re_op ns_opPow ?_ ?_ | refine re_op ns_opEq ?_ ?_ | refine re_op ns_opNe ?_ ?_ | refine re_op ns_opLt ?_ ?_ | refine re_op ns_opLe ?_ ?_ | refine re_op ns_opGt ?_ ?_ | refine re_op ns_opGe ?_ ?_ | refine re_op ns_opIn ?_ ?_ | refine re_op ns_opNotIn ?_ ?_ | refine re_op ns_opIx ?_ ?_ | refine re_callB ns_opAbs ?_ | refine re_callB ns_opInt ?_ | refine re_callB ns_opLen ?_ | refine re_callB ns_opTuple ?_ | refine re_callB ns_opList ?_ | refine re_callB ns_opSum ?_ | refine re_callB ns_opSorted ?_ | refine re_callB ns_opDict ?_ | refine re_callB ns_opGet ?_ | refine re_callB ns_opMin2 ?_ | refine re_callB ns_opMax2 ?_ | refine re_callB ns_opAny ?_ | refine re_callB ns_opAll ?_ | refine re_met ns_opGet ?_ ?_ | refine re_op1 ns_opNeg ?_ | refine rt_or ?_ ?_ | refine rt_not ?_ | refine re_sumV ?_ | refine re_listV ?_ | refine ri_zip ?_ | refine ri_values ?_ | exact rd_never | refine re_callF rel_all_rows ?_ ?_
def kmB : DS := (dSeq (dRet (dCallF D_reduced 2 0 [0, 1] (dCons (dCallB opSum (dCons (dLc (dAny (dVar 2)) (gVar 3) dYes (dOp opMul (dCallB opLen (dCons (dCallF D_kept_places 1 0 [0] (dCons (dVar 3) dNil) dNil) dNil)) (dOp opIx (dVar 2) (dVar 3))) [3]) dNil)) (dCons (dCallB opSum (dCons (dListV (dVar 2)) dNil)) dNil)) dNil))
  dNop)
theorem km_split : f_kept_mean_behind = dSeq (dAsg (dCallF D_counts_behind 2 0 [0, 1] (dCons (dVar 0) (dCons (dVar 1) dNil)) dNil) (gVar 2)) kmB := rfl
theorem rel_kmB {p q : Option PotSt} : Rel [] p q kmB := by
  unfold kmB
  repeat' first | refine rd_while ?_ ?_ _ | exact rd_nop | exact re_lit | exact re_empty | exact rt_yes | exact rs_nil | exact rgs_nil | exact ro_no | exact rg_var | exact re_var | refine rd_seq ?_ ?_ | refine rd_asg ?_ ?_ | refine rd_expr ?_ | refine rd_if ?_ ?_ ?_ | refine rd_ret ?_ | refine rd_par ?_ ?_ | refine rd_for ?_ ?_ ?_ | refine rg_tup ?_ | refine rg_ix ?_ ?_ | refine rgs_cons ?_ ?_ | refine ri_any ?_ | refine ri_items ?_ | refine ri_rg1 ?_ | refine ri_rg2 ?_ | refine ri_enum ?_ | refine re_lc ?_ ?_ ?_ ?_ | refine rs_cons ?_ ?_ | refine rs_consP ?_ ?_ | refine re_tup ?_ | refine re_lst ?_ | refine re_disp1 ?_ ?_ | refine re_rgT2 ?_ ?_ | refine re_slice ?_ ?_ ?_ | refine re_rev ?_ | refine ro_part ?_ | refine re_mut ?_ ?_ | refine re_val ?_ | refine rt_bool ?_ | refine rt_and ?_ ?_ | refine rt_neRepr ?_ ?_ | refine rt_asB ?_ | refine re_if ?_ ?_ ?_ | refine re_op ns_opAdd ?_ ?_ | refine re_op ns_opSub ?_ ?_ | refine re_op ns_opMul ?_ ?_ | refine re_op ns_opFDiv ?_ ?_ | refine re_op ns_opMod ?_ ?_ | refine re_op ns_opPow ?_ ?_ | refine re_op ns_opEq ?_ ?_ | refine re_op ns_opNe ?_ ?_ | refine re_op ns_opLt ?_ ?_ | refine re_op ns_opLe ?_ ?_ | refine re_op ns_opGt ?_ ?_ | refine re_op ns_opGe ?_ ?_ | refine re_op ns_opIn ?_ ?_ | refine re_op ns_opNotIn ?_ ?_ | refine re_op ns_opIx ?_ ?_ | refine re_callB ns_opAbs ?_ | refine re_callB ns_opInt ?_ | refine re_callB ns_opLen ?_ | refine re_callB ns_opTuple ?_ | refine re_callB ns_opList ?_ | refine re_callB ns_opSum ?_ | refine re_callB ns_opSorted ?_ | refine re_callB ns_opDict ?_ | refine re_callB ns_opGet ?_ | refine re_callB ns_opMin2 ?_ | refine re_callB ns_opMax2 ?_ | refine re_callB ns_opAny ?_ | refine re_callB ns_opAll ?_ | refine re_met ns_opGet ?_ ?_ | refine re_op1 ns_opNeg ?_ | refine rt_or ?_ ?_ | refine rt_not ?_ | refine re_sumV ?_ | refine re_listV ?_ | refine ri_zip ?_ | refine ri_values ?_ | exact rd_never | refine re_callF rel_reduced ?_ ?_ | refine re_callF rel_kept_places ?_ ?_
def gpB : DS := (dSeq (dPar (dConsP (dCallB opLen (dCons (dVar 2) dNil)) (dConsP (dCallB opSum (dCons (dVar 2) dNil)) dNil)) (gsCons (gVar 3) (gsCons (gVar 4) gsNil)))
  (dSeq (dRet (dCallF D_reduced 2 0 [0, 1] (dCons (dCallB opSum (dCons (dLc (dAny (dVar 2)) (gVar 5) dYes (dCallB opAbs (dCons (dOp opSub (dOp opMul (dVar 5) (dVar 3)) (dVar 4)) dNil)) [5]) dNil)) (dCons (dOp opMul (dOp opMul (dLit (.int 2)) (dVar 3)) (dVar 4)) dNil)) dNil))
  dNop))
theorem gp_split : f_gap_behind = dSeq (dAsg (dCallF D_ways_to 2 0 [0, 1] (dCons (dVar 0) (dCons (dVar 1) dNil)) dNil) (gVar 2)) gpB := rfl
theorem rel_gpB {p q : Option PotSt} : Rel [] p q gpB := by
  unfold gpB
  repeat' first | refine rd_while ?_ ?_ _ | exact rd_nop | exact re_lit | exact re_empty | exact rt_yes | exact rs_nil | exact rgs_nil | exact ro_no | exact rg_var | exact re_var | refine rd_seq ?_ ?_ | refine rd_asg ?_ ?_ | refine rd_expr ?_ | refine rd_if ?_ ?_ ?_ | refine rd_ret ?_ | refine rd_par ?_ ?_ | refine rd_for ?_ ?_ ?_ | refine rg_tup ?_ | refine rg_ix ?_ ?_ | refine rgs_cons ?_ ?_ | refine ri_any ?_ | refine ri_items ?_ | refine ri_rg1 ?_ | refine ri_rg2 ?_ | refine ri_enum ?_ | refine re_lc ?_ ?_ ?_ ?_ | refine rs_cons ?_ ?_ | refine rs_consP ?_ ?_ | refine re_tup ?_ | refine re_lst ?_ | refine re_disp1 ?_ ?_ | refine re_rgT2 ?_ ?_ | refine re_slice ?_ ?_ ?_ | refine re_rev ?_ | refine ro_part ?_ | refine re_mut ?_ ?_ | refine re_val ?_ | refine rt_bool ?_ | refine rt_and ?_ ?_ | refine rt_neRepr ?_ ?_ | refine rt_asB ?_ | refine re_if ?_ ?_ ?_ | refine re_op ns_opAdd ?_ ?_ | refine re_op ns_opSub ?_ ?_ | refine re_op ns_opMul ?_ ?_ | refine re_op ns_opFDiv ?_ ?_ | refine re_op ns_opMod ?_ ?_ | refine re_op ns_opPow ?_ ?_ | refine re_op ns_opEq ?_ ?_ | refine re_op ns_opNe ?_ ?_ | refine re_op ns_opLt ?_ ?_ | refine re_op ns_opLe ?_ ?_ | refine re_op ns_opGt ?_ ?_ | refine re_op ns_opGe ?_ ?_ | refine re_op ns_opIn ?_ ?_ | refine re_op ns_opNotIn ?_ ?_ | refine re_op ns_opIx ?_ ?_ | refine re_callB ns_opAbs ?_ | refine re_callB ns_opInt ?_ | refine re_callB ns_opLen ?_ | refine re_callB ns_opTuple ?_ | refine re_callB ns_opList ?_ | refine re_callB ns_opSum ?_ | refine re_callB ns_opSorted ?_ | refine re_callB ns_opDict ?_ | refine re_callB ns_opGet ?_ | refine re_callB ns_opMin2 ?_ | refine re_callB ns_opMax2 ?_ | refine re_callB ns_opAny ?_ | refine re_callB ns_opAll ?_ | refine re_met ns_opGet ?_ ?_ | refine re_op1 ns_opNeg ?_ | refine rt_or ?_ ?_ | refine rt_not ?_ | refine re_sumV ?_ | refine re_listV ?_ | refine ri_zip ?_ | refine ri_values ?_ | exact rd_never | refine re_callF rel_reduced ?_ ?_
def mnB : DS := (dSeq (dPar (dConsP (dSumV (dVar 2)) (dConsP (dLit (.int 0)) (dConsP (dLit (.int 0)) dNil))) (gsCons (gVar 3) (gsCons (gVar 4) (gsCons (gVar 5) gsNil))))
  (dSeq (dFor (dAny (dVar 2)) (gVar 6)
   (dSeq (dAsg (dOp opAdd (dOp opAdd (dTup (dCons (dLit (.int 0)) dNil)) (dVar 6)) (dTup (dCons (dOp opAdd (dVar 0) (dLit (.int 1))) dNil))) (gVar 7))
   (dSeq (dAsg (dOp opAdd (dVar 4) (dOp opMul (dOp opIx (dVar 2) (dVar 6)) (dCallB opLen (dCons (dLc (dZip (dCons (dVar 7) (dCons (dSlice (dVar 7) (dPart (dLit (.int 1))) dNo) dNil))) (gTupD (gsCons (gVar 8) (gsCons (gVar 9) gsNil))) (fun s => asB (dOp opEq (dVar 9) (dOp opAdd (dVar 8) (dLit (.int 1))) s)) (dLit (.int 1)) [8, 9]) dNil)))) (gVar 4))
   (dSeq (dAsg (dOp opAdd (dVar 5) (dCallB opAbs (dCons (dOp opSub (dOp opMul (dOp opIx (dVar 2) (dVar 6)) (dCallB opLen (dCons (dVar 2) dNil))) (dVar 3)) dNil))) (gVar 5))
   dNop))))
  (dSeq (dRet (dTup (dCons (dCallF D__law_fraction 2 0 [0, 1] (dCons (dVar 4) (dCons (dVar 3) dNil)) dNil) (dCons (dCallF D__law_fraction 2 0 [0, 1] (dCons (dVar 5) (dCons (dOp opMul (dOp opMul (dLit (.int 2)) (dVar 3)) (dCallB opLen (dCons (dVar 2) dNil))) dNil)) dNil) dNil))))
  dNop)))
theorem mn_split : f__law_means = dSeq (dAsg (dCallF D__law_counts 2 0 [0, 1] (dCons (dVar 0) (dCons (dVar 1) dNil)) dNil) (gVar 2)) mnB := rfl
theorem rel_mnB {p q : Option PotSt} : Rel [] p q mnB := by
  unfold mnB
  repeat' first | refine rd_while ?_ ?_ _ | exact rd_nop | exact re_lit | exact re_empty | exact rt_yes | exact rs_nil | exact rgs_nil | exact ro_no | exact rg_var | exact re_var | refine rd_seq ?_ ?_ | refine rd_asg ?_ ?_ | refine rd_expr ?_ | refine rd_if ?_ ?_ ?_ | refine rd_ret ?_ | refine rd_par ?_ ?_ | refine rd_for ?_ ?_ ?_ | refine rg_tup ?_ | refine rg_ix ?_ ?_ | refine rgs_cons ?_ ?_ | refine ri_any ?_ | refine ri_items ?_ | refine ri_rg1 ?_ | refine ri_rg2 ?_ | refine ri_enum ?_ | refine re_lc ?_ ?_ ?_ ?_ | refine rs_cons ?_ ?_ | refine rs_consP ?_ ?_ | refine re_tup ?_ | refine re_lst ?_ | refine re_disp1 ?_ ?_ | refine re_rgT2 ?_ ?_ | refine re_slice ?_ ?_ ?_ | refine re_rev ?_ | refine ro_part ?_ | refine re_mut ?_ ?_ | refine re_val ?_ | refine rt_bool ?_ | refine rt_and ?_ ?_ | refine rt_neRepr ?_ ?_ | refine rt_asB ?_ | refine re_if ?_ ?_ ?_ | refine re_op ns_opAdd ?_ ?_ | refine re_op ns_opSub ?_ ?_ | refine re_op ns_opMul ?_ ?_ | refine re_op ns_opFDiv ?_ ?_ | refine re_op ns_opMod ?_ ?_ | refine re_op ns_opPow ?_ ?_ | refine re_op ns_opEq ?_ ?_ | refine re_op ns_opNe ?_ ?_ | refine re_op ns_opLt ?_ ?_ | refine re_op ns_opLe ?_ ?_ | refine re_op ns_opGt ?_ ?_ | refine re_op ns_opGe ?_ ?_ | refine re_op ns_opIn ?_ ?_ | refine re_op ns_opNotIn ?_ ?_ | refine re_op ns_opIx ?_ ?_ | refine re_callB ns_opAbs ?_ | refine re_callB ns_opInt ?_ | refine re_callB ns_opLen ?_ | refine re_callB ns_opTuple ?_ | refine re_callB ns_opList ?_ | refine re_callB ns_opSum ?_ | refine re_callB ns_opSorted ?_ | refine re_callB ns_opDict ?_ | refine re_callB ns_opGet ?_ | refine re_callB ns_opMin2 ?_ | refine re_callB ns_opMax2 ?_ | refine re_callB ns_opAny ?_ | refine re_callB ns_opAll ?_ | refine re_met ns_opGet ?_ ?_ | refine re_op1 ns_opNeg ?_ | refine rt_or ?_ ?_ | refine rt_not ?_ | refine re_sumV ?_ | refine re_listV ?_ | refine ri_zip ?_ | refine ri_values ?_ | exact rd_never | refine re_callF rel__law_fraction ?_ ?_
theorem wt1_0 : ∀ p, D_ways_to [.d (.int 1), .d (.int 0)] p = some (.fz (.tuple (ld1_0.map (·.2))), p) := fun p => by
  rw [D_ways_to, wt_split]
  exact two_call rfl (.inr ⟨rfl, rfl⟩) counts1_0 (fun _ => rel_wtB) (by decide +kernel) p
theorem gp1_0 : ∀ p, D_gap_behind [.d (.int 1), .d (.int 0)] p = some (.fz (tI [1, 2]), p) := fun p => by
  rw [D_gap_behind, gp_split]
  exact two_call rfl (.inl ⟨rfl, rfl⟩) wt1_0 (fun _ => rel_gpB) (by decide +kernel) p
theorem km1_0 : ∀ p, D_kept_mean_behind [.d (.int 1), .d (.int 0)] p = some (.fz (tI [2, 1]), p) := fun p => by
  rw [D_kept_mean_behind, km_split]
  exact two_call rfl (.inr ⟨rfl, rfl⟩) counts1_0 (fun _ => rel_kmB) (by decide +kernel) p
theorem mn1_0 : ∀ p, D__law_means [.d (.int 1), .d (.int 0)] p = some (.fz (.tuple [(tI [2, 1]), (tI [1, 2])]), p) := fun p => by
  rw [D__law_means, mn_split]
  exact two_call rfl (.inr ⟨rfl, rfl⟩) lawc1_0 (fun _ => rel_mnB) (by decide +kernel) p
theorem wt1_1 : ∀ p, D_ways_to [.d (.int 1), .d (.int 1)] p = some (.fz (.tuple (ld1_1.map (·.2))), p) := fun p => by
  rw [D_ways_to, wt_split]
  exact two_call rfl (.inl ⟨rfl, rfl⟩) counts1_1 (fun _ => rel_wtB) (by decide +kernel) p
theorem gp1_1 : ∀ p, D_gap_behind [.d (.int 1), .d (.int 1)] p = some (.fz (tI [1, 2]), p) := fun p => by
  rw [D_gap_behind, gp_split]
  exact two_call rfl (.inl ⟨rfl, rfl⟩) wt1_1 (fun _ => rel_gpB) (by decide +kernel) p
theorem km1_1 : ∀ p, D_kept_mean_behind [.d (.int 1), .d (.int 1)] p = some (.fz (tI [0, 1]), p) := fun p => by
  rw [D_kept_mean_behind, km_split]
  exact two_call rfl (.inl ⟨rfl, rfl⟩) counts1_1 (fun _ => rel_kmB) (by decide +kernel) p
theorem mn1_1 : ∀ p, D__law_means [.d (.int 1), .d (.int 1)] p = some (.fz (.tuple [(tI [0, 1]), (tI [1, 2])]), p) := fun p => by
  rw [D__law_means, mn_split]
  exact two_call rfl (.inr ⟨rfl, rfl⟩) lawc1_1 (fun _ => rel_mnB) (by decide +kernel) p
theorem wt1_2 : ∀ p, D_ways_to [.d (.int 1), .d (.int 2)] p = some (.fz (.tuple (ld1_2.map (·.2))), p) := fun p => by
  rw [D_ways_to, wt_split]
  exact two_call rfl (.inl ⟨rfl, rfl⟩) counts1_2 (fun _ => rel_wtB) (by decide +kernel) p
theorem gp1_2 : ∀ p, D_gap_behind [.d (.int 1), .d (.int 2)] p = some (.fz (tI [1, 2]), p) := fun p => by
  rw [D_gap_behind, gp_split]
  exact two_call rfl (.inl ⟨rfl, rfl⟩) wt1_2 (fun _ => rel_gpB) (by decide +kernel) p
theorem km1_2 : ∀ p, D_kept_mean_behind [.d (.int 1), .d (.int 2)] p = some (.fz (tI [2, 1]), p) := fun p => by
  rw [D_kept_mean_behind, km_split]
  exact two_call rfl (.inl ⟨rfl, rfl⟩) counts1_2 (fun _ => rel_kmB) (by decide +kernel) p
theorem mn1_2 : ∀ p, D__law_means [.d (.int 1), .d (.int 2)] p = some (.fz (.tuple [(tI [2, 1]), (tI [1, 2])]), p) := fun p => by
  rw [D__law_means, mn_split]
  exact two_call rfl (.inr ⟨rfl, rfl⟩) lawc1_2 (fun _ => rel_mnB) (by decide +kernel) p
theorem wt1_3 : ∀ p, D_ways_to [.d (.int 1), .d (.int 3)] p = some (.fz (.tuple (ld1_3.map (·.2))), p) := fun p => by
  rw [D_ways_to, wt_split]
  exact two_call rfl (.inl ⟨rfl, rfl⟩) counts1_3 (fun _ => rel_wtB) (by decide +kernel) p
theorem gp1_3 : ∀ p, D_gap_behind [.d (.int 1), .d (.int 3)] p = some (.fz (tI [1, 2]), p) := fun p => by
  rw [D_gap_behind, gp_split]
  exact two_call rfl (.inl ⟨rfl, rfl⟩) wt1_3 (fun _ => rel_gpB) (by decide +kernel) p
theorem km1_3 : ∀ p, D_kept_mean_behind [.d (.int 1), .d (.int 3)] p = some (.fz (tI [0, 1]), p) := fun p => by
  rw [D_kept_mean_behind, km_split]
  exact two_call rfl (.inl ⟨rfl, rfl⟩) counts1_3 (fun _ => rel_kmB) (by decide +kernel) p
theorem mn1_3 : ∀ p, D__law_means [.d (.int 1), .d (.int 3)] p = some (.fz (.tuple [(tI [0, 1]), (tI [1, 2])]), p) := fun p => by
  rw [D__law_means, mn_split]
  exact two_call rfl (.inr ⟨rfl, rfl⟩) lawc1_3 (fun _ => rel_mnB) (by decide +kernel) p
theorem wt1_4 : ∀ p, D_ways_to [.d (.int 1), .d (.int 4)] p = some (.fz (.tuple (ld1_4.map (·.2))), p) := fun p => by
  rw [D_ways_to, wt_split]
  exact two_call rfl (.inl ⟨rfl, rfl⟩) counts1_4 (fun _ => rel_wtB) (by decide +kernel) p
theorem gp1_4 : ∀ p, D_gap_behind [.d (.int 1), .d (.int 4)] p = some (.fz (tI [1, 2]), p) := fun p => by
  rw [D_gap_behind, gp_split]
  exact two_call rfl (.inl ⟨rfl, rfl⟩) wt1_4 (fun _ => rel_gpB) (by decide +kernel) p
theorem km1_4 : ∀ p, D_kept_mean_behind [.d (.int 1), .d (.int 4)] p = some (.fz (tI [2, 1]), p) := fun p => by
  rw [D_kept_mean_behind, km_split]
  exact two_call rfl (.inl ⟨rfl, rfl⟩) counts1_4 (fun _ => rel_kmB) (by decide +kernel) p
theorem mn1_4 : ∀ p, D__law_means [.d (.int 1), .d (.int 4)] p = some (.fz (.tuple [(tI [2, 1]), (tI [1, 2])]), p) := fun p => by
  rw [D__law_means, mn_split]
  exact two_call rfl (.inr ⟨rfl, rfl⟩) lawc1_4 (fun _ => rel_mnB) (by decide +kernel) p
theorem wt1_5 : ∀ p, D_ways_to [.d (.int 1), .d (.int 5)] p = some (.fz (.tuple (ld1_5.map (·.2))), p) := fun p => by
  rw [D_ways_to, wt_split]
  exact two_call rfl (.inl ⟨rfl, rfl⟩) counts1_5 (fun _ => rel_wtB) (by decide +kernel) p
theorem gp1_5 : ∀ p, D_gap_behind [.d (.int 1), .d (.int 5)] p = some (.fz (tI [1, 2]), p) := fun p => by
  rw [D_gap_behind, gp_split]
  exact two_call rfl (.inl ⟨rfl, rfl⟩) wt1_5 (fun _ => rel_gpB) (by decide +kernel) p
theorem km1_5 : ∀ p, D_kept_mean_behind [.d (.int 1), .d (.int 5)] p = some (.fz (tI [0, 1]), p) := fun p => by
  rw [D_kept_mean_behind, km_split]
  exact two_call rfl (.inl ⟨rfl, rfl⟩) counts1_5 (fun _ => rel_kmB) (by decide +kernel) p
theorem mn1_5 : ∀ p, D__law_means [.d (.int 1), .d (.int 5)] p = some (.fz (.tuple [(tI [0, 1]), (tI [1, 2])]), p) := fun p => by
  rw [D__law_means, mn_split]
  exact two_call rfl (.inr ⟨rfl, rfl⟩) lawc1_5 (fun _ => rel_mnB) (by decide +kernel) p
theorem wt1_6 : ∀ p, D_ways_to [.d (.int 1), .d (.int 6)] p = some (.fz (.tuple (ld1_6.map (·.2))), p) := fun p => by
  rw [D_ways_to, wt_split]
  exact two_call rfl (.inl ⟨rfl, rfl⟩) counts1_6 (fun _ => rel_wtB) (by decide +kernel) p
theorem gp1_6 : ∀ p, D_gap_behind [.d (.int 1), .d (.int 6)] p = some (.fz (tI [1, 2]), p) := fun p => by
  rw [D_gap_behind, gp_split]
  exact two_call rfl (.inl ⟨rfl, rfl⟩) wt1_6 (fun _ => rel_gpB) (by decide +kernel) p
theorem km1_6 : ∀ p, D_kept_mean_behind [.d (.int 1), .d (.int 6)] p = some (.fz (tI [2, 1]), p) := fun p => by
  rw [D_kept_mean_behind, km_split]
  exact two_call rfl (.inl ⟨rfl, rfl⟩) counts1_6 (fun _ => rel_kmB) (by decide +kernel) p
theorem mn1_6 : ∀ p, D__law_means [.d (.int 1), .d (.int 6)] p = some (.fz (.tuple [(tI [2, 1]), (tI [1, 2])]), p) := fun p => by
  rw [D__law_means, mn_split]
  exact two_call rfl (.inr ⟨rfl, rfl⟩) lawc1_6 (fun _ => rel_mnB) (by decide +kernel) p
theorem wt1_7 : ∀ p, D_ways_to [.d (.int 1), .d (.int 7)] p = some (.fz (.tuple (ld1_7.map (·.2))), p) := fun p => by
  rw [D_ways_to, wt_split]
  exact two_call rfl (.inl ⟨rfl, rfl⟩) counts1_7 (fun _ => rel_wtB) (by decide +kernel) p
theorem gp1_7 : ∀ p, D_gap_behind [.d (.int 1), .d (.int 7)] p = some (.fz (tI [1, 2]), p) := fun p => by
  rw [D_gap_behind, gp_split]
  exact two_call rfl (.inl ⟨rfl, rfl⟩) wt1_7 (fun _ => rel_gpB) (by decide +kernel) p
theorem km1_7 : ∀ p, D_kept_mean_behind [.d (.int 1), .d (.int 7)] p = some (.fz (tI [0, 1]), p) := fun p => by
  rw [D_kept_mean_behind, km_split]
  exact two_call rfl (.inl ⟨rfl, rfl⟩) counts1_7 (fun _ => rel_kmB) (by decide +kernel) p
theorem mn1_7 : ∀ p, D__law_means [.d (.int 1), .d (.int 7)] p = some (.fz (.tuple [(tI [0, 1]), (tI [1, 2])]), p) := fun p => by
  rw [D__law_means, mn_split]
  exact two_call rfl (.inr ⟨rfl, rfl⟩) lawc1_7 (fun _ => rel_mnB) (by decide +kernel) p
theorem wt1_8 : ∀ p, D_ways_to [.d (.int 1), .d (.int 8)] p = some (.fz (.tuple (ld1_8.map (·.2))), p) := fun p => by
  rw [D_ways_to, wt_split]
  exact two_call rfl (.inl ⟨rfl, rfl⟩) counts1_8 (fun _ => rel_wtB) (by decide +kernel) p
theorem gp1_8 : ∀ p, D_gap_behind [.d (.int 1), .d (.int 8)] p = some (.fz (tI [1, 2]), p) := fun p => by
  rw [D_gap_behind, gp_split]
  exact two_call rfl (.inl ⟨rfl, rfl⟩) wt1_8 (fun _ => rel_gpB) (by decide +kernel) p
theorem km1_8 : ∀ p, D_kept_mean_behind [.d (.int 1), .d (.int 8)] p = some (.fz (tI [2, 1]), p) := fun p => by
  rw [D_kept_mean_behind, km_split]
  exact two_call rfl (.inl ⟨rfl, rfl⟩) counts1_8 (fun _ => rel_kmB) (by decide +kernel) p
theorem mn1_8 : ∀ p, D__law_means [.d (.int 1), .d (.int 8)] p = some (.fz (.tuple [(tI [2, 1]), (tI [1, 2])]), p) := fun p => by
  rw [D__law_means, mn_split]
  exact two_call rfl (.inr ⟨rfl, rfl⟩) lawc1_8 (fun _ => rel_mnB) (by decide +kernel) p
theorem wt1_9 : ∀ p, D_ways_to [.d (.int 1), .d (.int 9)] p = some (.fz (.tuple (ld1_9.map (·.2))), p) := fun p => by
  rw [D_ways_to, wt_split]
  exact two_call rfl (.inl ⟨rfl, rfl⟩) counts1_9 (fun _ => rel_wtB) (by decide +kernel) p
theorem gp1_9 : ∀ p, D_gap_behind [.d (.int 1), .d (.int 9)] p = some (.fz (tI [1, 2]), p) := fun p => by
  rw [D_gap_behind, gp_split]
  exact two_call rfl (.inl ⟨rfl, rfl⟩) wt1_9 (fun _ => rel_gpB) (by decide +kernel) p
theorem km1_9 : ∀ p, D_kept_mean_behind [.d (.int 1), .d (.int 9)] p = some (.fz (tI [0, 1]), p) := fun p => by
  rw [D_kept_mean_behind, km_split]
  exact two_call rfl (.inl ⟨rfl, rfl⟩) counts1_9 (fun _ => rel_kmB) (by decide +kernel) p
theorem mn1_9 : ∀ p, D__law_means [.d (.int 1), .d (.int 9)] p = some (.fz (.tuple [(tI [0, 1]), (tI [1, 2])]), p) := fun p => by
  rw [D__law_means, mn_split]
  exact two_call rfl (.inr ⟨rfl, rfl⟩) lawc1_9 (fun _ => rel_mnB) (by decide +kernel) p
theorem wt1_10 : ∀ p, D_ways_to [.d (.int 1), .d (.int 10)] p = some (.fz (.tuple (ld1_10.map (·.2))), p) := fun p => by
  rw [D_ways_to, wt_split]
  exact two_call rfl (.inl ⟨rfl, rfl⟩) counts1_10 (fun _ => rel_wtB) (by decide +kernel) p
theorem gp1_10 : ∀ p, D_gap_behind [.d (.int 1), .d (.int 10)] p = some (.fz (tI [1, 2]), p) := fun p => by
  rw [D_gap_behind, gp_split]
  exact two_call rfl (.inl ⟨rfl, rfl⟩) wt1_10 (fun _ => rel_gpB) (by decide +kernel) p
theorem km1_10 : ∀ p, D_kept_mean_behind [.d (.int 1), .d (.int 10)] p = some (.fz (tI [2, 1]), p) := fun p => by
  rw [D_kept_mean_behind, km_split]
  exact two_call rfl (.inl ⟨rfl, rfl⟩) counts1_10 (fun _ => rel_kmB) (by decide +kernel) p
theorem mn1_10 : ∀ p, D__law_means [.d (.int 1), .d (.int 10)] p = some (.fz (.tuple [(tI [2, 1]), (tI [1, 2])]), p) := fun p => by
  rw [D__law_means, mn_split]
  exact two_call rfl (.inr ⟨rfl, rfl⟩) lawc1_10 (fun _ => rel_mnB) (by decide +kernel) p
theorem wt1_11 : ∀ p, D_ways_to [.d (.int 1), .d (.int 11)] p = some (.fz (.tuple (ld1_11.map (·.2))), p) := fun p => by
  rw [D_ways_to, wt_split]
  exact two_call rfl (.inl ⟨rfl, rfl⟩) counts1_11 (fun _ => rel_wtB) (by decide +kernel) p
theorem gp1_11 : ∀ p, D_gap_behind [.d (.int 1), .d (.int 11)] p = some (.fz (tI [1, 2]), p) := fun p => by
  rw [D_gap_behind, gp_split]
  exact two_call rfl (.inl ⟨rfl, rfl⟩) wt1_11 (fun _ => rel_gpB) (by decide +kernel) p
theorem km1_11 : ∀ p, D_kept_mean_behind [.d (.int 1), .d (.int 11)] p = some (.fz (tI [0, 1]), p) := fun p => by
  rw [D_kept_mean_behind, km_split]
  exact two_call rfl (.inl ⟨rfl, rfl⟩) counts1_11 (fun _ => rel_kmB) (by decide +kernel) p
theorem mn1_11 : ∀ p, D__law_means [.d (.int 1), .d (.int 11)] p = some (.fz (.tuple [(tI [0, 1]), (tI [1, 2])]), p) := fun p => by
  rw [D__law_means, mn_split]
  exact two_call rfl (.inr ⟨rfl, rfl⟩) lawc1_11 (fun _ => rel_mnB) (by decide +kernel) p
theorem wt1_12 : ∀ p, D_ways_to [.d (.int 1), .d (.int 12)] p = some (.fz (.tuple (ld1_12.map (·.2))), p) := fun p => by
  rw [D_ways_to, wt_split]
  exact two_call rfl (.inl ⟨rfl, rfl⟩) counts1_12 (fun _ => rel_wtB) (by decide +kernel) p
theorem gp1_12 : ∀ p, D_gap_behind [.d (.int 1), .d (.int 12)] p = some (.fz (tI [1, 2]), p) := fun p => by
  rw [D_gap_behind, gp_split]
  exact two_call rfl (.inl ⟨rfl, rfl⟩) wt1_12 (fun _ => rel_gpB) (by decide +kernel) p
theorem wt2_0 : ∀ p, D_ways_to [.d (.int 2), .d (.int 0)] p = some (.fz (.tuple (ld2_0.map (·.2))), p) := fun p => by
  rw [D_ways_to, wt_split]
  exact two_call rfl (.inr ⟨rfl, rfl⟩) counts2_0 (fun _ => rel_wtB) (by decide +kernel) p
theorem gp2_0 : ∀ p, D_gap_behind [.d (.int 2), .d (.int 0)] p = some (.fz (tI [7, 8]), p) := fun p => by
  rw [D_gap_behind, gp_split]
  exact two_call rfl (.inl ⟨rfl, rfl⟩) wt2_0 (fun _ => rel_gpB) (by decide +kernel) p
theorem km2_0 : ∀ p, D_kept_mean_behind [.d (.int 2), .d (.int 0)] p = some (.fz (tI [3, 1]), p) := fun p => by
  rw [D_kept_mean_behind, km_split]
  exact two_call rfl (.inr ⟨rfl, rfl⟩) counts2_0 (fun _ => rel_kmB) (by decide +kernel) p
theorem mn2_0 : ∀ p, D__law_means [.d (.int 2), .d (.int 0)] p = some (.fz (.tuple [(tI [3, 1]), (tI [7, 8])]), p) := fun p => by
  rw [D__law_means, mn_split]
  exact two_call rfl (.inr ⟨rfl, rfl⟩) lawc2_0 (fun _ => rel_mnB) (by decide +kernel) p
theorem wt2_1 : ∀ p, D_ways_to [.d (.int 2), .d (.int 1)] p = some (.fz (.tuple (ld2_1.map (·.2))), p) := fun p => by
  rw [D_ways_to, wt_split]
  exact two_call rfl (.inl ⟨rfl, rfl⟩) counts2_1 (fun _ => rel_wtB) (by decide +kernel) p
theorem gp2_1 : ∀ p, D_gap_behind [.d (.int 2), .d (.int 1)] p = some (.fz (tI [5, 8]), p) := fun p => by
  rw [D_gap_behind, gp_split]
  exact two_call rfl (.inl ⟨rfl, rfl⟩) wt2_1 (fun _ => rel_gpB) (by decide +kernel) p
theorem km2_1 : ∀ p, D_kept_mean_behind [.d (.int 2), .d (.int 1)] p = some (.fz (tI [1, 1]), p) := fun p => by
  rw [D_kept_mean_behind, km_split]
  exact two_call rfl (.inl ⟨rfl, rfl⟩) counts2_1 (fun _ => rel_kmB) (by decide +kernel) p
theorem mn2_1 : ∀ p, D__law_means [.d (.int 2), .d (.int 1)] p = some (.fz (.tuple [(tI [1, 1]), (tI [5, 8])]), p) := fun p => by
  rw [D__law_means, mn_split]
  exact two_call rfl (.inr ⟨rfl, rfl⟩) lawc2_1 (fun _ => rel_mnB) (by decide +kernel) p
theorem wt2_2 : ∀ p, D_ways_to [.d (.int 2), .d (.int 2)] p = some (.fz (.tuple (ld2_2.map (·.2))), p) := fun p => by
  rw [D_ways_to, wt_split]
  exact two_call rfl (.inl ⟨rfl, rfl⟩) counts2_2 (fun _ => rel_wtB) (by decide +kernel) p
theorem gp2_2 : ∀ p, D_gap_behind [.d (.int 2), .d (.int 2)] p = some (.fz (tI [1, 2]), p) := fun p => by
  rw [D_gap_behind, gp_split]
  exact two_call rfl (.inl ⟨rfl, rfl⟩) wt2_2 (fun _ => rel_gpB) (by decide +kernel) p
theorem km2_2 : ∀ p, D_kept_mean_behind [.d (.int 2), .d (.int 2)] p = some (.fz (tI [1, 1]), p) := fun p => by
  rw [D_kept_mean_behind, km_split]
  exact two_call rfl (.inl ⟨rfl, rfl⟩) counts2_2 (fun _ => rel_kmB) (by decide +kernel) p
theorem mn2_2 : ∀ p, D__law_means [.d (.int 2), .d (.int 2)] p = some (.fz (.tuple [(tI [1, 1]), (tI [1, 2])]), p) := fun p => by
  rw [D__law_means, mn_split]
  exact two_call rfl (.inr ⟨rfl, rfl⟩) lawc2_2 (fun _ => rel_mnB) (by decide +kernel) p
theorem wt2_3 : ∀ p, D_ways_to [.d (.int 2), .d (.int 3)] p = some (.fz (.tuple (ld2_3.map (·.2))), p) := fun p => by
  rw [D_ways_to, wt_split]
  exact two_call rfl (.inl ⟨rfl, rfl⟩) counts2_3 (fun _ => rel_wtB) (by decide +kernel) p
theorem gp2_3 : ∀ p, D_gap_behind [.d (.int 2), .d (.int 3)] p = some (.fz (tI [1, 2]), p) := fun p => by
  rw [D_gap_behind, gp_split]
  exact two_call rfl (.inl ⟨rfl, rfl⟩) wt2_3 (fun _ => rel_gpB) (by decide +kernel) p
theorem km2_3 : ∀ p, D_kept_mean_behind [.d (.int 2), .d (.int 3)] p = some (.fz (tI [7, 9]), p) := fun p => by
  rw [D_kept_mean_behind, km_split]
  exact two_call rfl (.inl ⟨rfl, rfl⟩) counts2_3 (fun _ => rel_kmB) (by decide +kernel) p
theorem mn2_3 : ∀ p, D__law_means [.d (.int 2), .d (.int 3)] p = some (.fz (.tuple [(tI [7, 9]), (tI [1, 2])]), p) := fun p => by
  rw [D__law_means, mn_split]
  exact two_call rfl (.inr ⟨rfl, rfl⟩) lawc2_3 (fun _ => rel_mnB) (by decide +kernel) p
theorem wt2_4 : ∀ p, D_ways_to [.d (.int 2), .d (.int 4)] p = some (.fz (.tuple (ld2_4.map (·.2))), p) := fun p => by
  rw [D_ways_to, wt_split]
  exact two_call rfl (.inl ⟨rfl, rfl⟩) counts2_4 (fun _ => rel_wtB) (by decide +kernel) p
theorem gp2_4 : ∀ p, D_gap_behind [.d (.int 2), .d (.int 4)] p = some (.fz (tI [1, 2]), p) := fun p => by
  rw [D_gap_behind, gp_split]
  exact two_call rfl (.inl ⟨rfl, rfl⟩) wt2_4 (fun _ => rel_gpB) (by decide +kernel) p
theorem km2_4 : ∀ p, D_kept_mean_behind [.d (.int 2), .d (.int 4)] p = some (.fz (tI [7, 9]), p) := fun p => by
  rw [D_kept_mean_behind, km_split]
  exact two_call rfl (.inl ⟨rfl, rfl⟩) counts2_4 (fun _ => rel_kmB) (by decide +kernel) p
theorem mn2_4 : ∀ p, D__law_means [.d (.int 2), .d (.int 4)] p = some (.fz (.tuple [(tI [7, 9]), (tI [1, 2])]), p) := fun p => by
  rw [D__law_means, mn_split]
  exact two_call rfl (.inr ⟨rfl, rfl⟩) lawc2_4 (fun _ => rel_mnB) (by decide +kernel) p
theorem wt2_5 : ∀ p, D_ways_to [.d (.int 2), .d (.int 5)] p = some (.fz (.tuple (ld2_5.map (·.2))), p) := fun p => by
  rw [D_ways_to, wt_split]
  exact two_call rfl (.inl ⟨rfl, rfl⟩) counts2_5 (fun _ => rel_wtB) (by decide +kernel) p
theorem gp2_5 : ∀ p, D_gap_behind [.d (.int 2), .d (.int 5)] p = some (.fz (tI [1, 2]), p) := fun p => by
  rw [D_gap_behind, gp_split]
  exact two_call rfl (.inl ⟨rfl, rfl⟩) wt2_5 (fun _ => rel_gpB) (by decide +kernel) p
theorem km2_5 : ∀ p, D_kept_mean_behind [.d (.int 2), .d (.int 5)] p = some (.fz (tI [61, 81]), p) := fun p => by
  rw [D_kept_mean_behind, km_split]
  exact two_call rfl (.inl ⟨rfl, rfl⟩) counts2_5 (fun _ => rel_kmB) (by decide +kernel) p
theorem mn2_5 : ∀ p, D__law_means [.d (.int 2), .d (.int 5)] p = some (.fz (.tuple [(tI [61, 81]), (tI [1, 2])]), p) := fun p => by
  rw [D__law_means, mn_split]
  exact two_call rfl (.inr ⟨rfl, rfl⟩) lawc2_5 (fun _ => rel_mnB) (by decide +kernel) p
theorem wt2_6 : ∀ p, D_ways_to [.d (.int 2), .d (.int 6)] p = some (.fz (.tuple (ld2_6.map (·.2))), p) := fun p => by
  rw [D_ways_to, wt_split]
  exact two_call rfl (.inl ⟨rfl, rfl⟩) counts2_6 (fun _ => rel_wtB) (by decide +kernel) p
theorem gp2_6 : ∀ p, D_gap_behind [.d (.int 2), .d (.int 6)] p = some (.fz (tI [1, 2]), p) := fun p => by
  rw [D_gap_behind, gp_split]
  exact two_call rfl (.inl ⟨rfl, rfl⟩) wt2_6 (fun _ => rel_gpB) (by decide +kernel) p
theorem km2_6 : ∀ p, D_kept_mean_behind [.d (.int 2), .d (.int 6)] p = some (.fz (tI [61, 81]), p) := fun p => by
  rw [D_kept_mean_behind, km_split]
  exact two_call rfl (.inl ⟨rfl, rfl⟩) counts2_6 (fun _ => rel_kmB) (by decide +kernel) p
theorem mn2_6 : ∀ p, D__law_means [.d (.int 2), .d (.int 6)] p = some (.fz (.tuple [(tI [61, 81]), (tI [1, 2])]), p) := fun p => by
  rw [D__law_means, mn_split]
  exact two_call rfl (.inr ⟨rfl, rfl⟩) lawc2_6 (fun _ => rel_mnB) (by decide +kernel) p
theorem wt2_7 : ∀ p, D_ways_to [.d (.int 2), .d (.int 7)] p = some (.fz (.tuple (ld2_7.map (·.2))), p) := fun p => by
  rw [D_ways_to, wt_split]
  exact two_call rfl (.inl ⟨rfl, rfl⟩) counts2_7 (fun _ => rel_wtB) (by decide +kernel) p
theorem gp2_7 : ∀ p, D_gap_behind [.d (.int 2), .d (.int 7)] p = some (.fz (tI [1, 2]), p) := fun p => by
  rw [D_gap_behind, gp_split]
  exact two_call rfl (.inl ⟨rfl, rfl⟩) wt2_7 (fun _ => rel_gpB) (by decide +kernel) p
theorem km2_7 : ∀ p, D_kept_mean_behind [.d (.int 2), .d (.int 7)] p = some (.fz (tI [547, 729]), p) := fun p => by
  rw [D_kept_mean_behind, km_split]
  exact two_call rfl (.inl ⟨rfl, rfl⟩) counts2_7 (fun _ => rel_kmB) (by decide +kernel) p
theorem mn2_7 : ∀ p, D__law_means [.d (.int 2), .d (.int 7)] p = some (.fz (.tuple [(tI [547, 729]), (tI [1, 2])]), p) := fun p => by
  rw [D__law_means, mn_split]
  exact two_call rfl (.inr ⟨rfl, rfl⟩) lawc2_7 (fun _ => rel_mnB) (by decide +kernel) p
theorem wt2_8 : ∀ p, D_ways_to [.d (.int 2), .d (.int 8)] p = some (.fz (.tuple (ld2_8.map (·.2))), p) := fun p => by
  rw [D_ways_to, wt_split]
  exact two_call rfl (.inl ⟨rfl, rfl⟩) counts2_8 (fun _ => rel_wtB) (by decide +kernel) p
theorem gp2_8 : ∀ p, D_gap_behind [.d (.int 2), .d (.int 8)] p = some (.fz (tI [1, 2]), p) := fun p => by
  rw [D_gap_behind, gp_split]
  exact two_call rfl (.inl ⟨rfl, rfl⟩) wt2_8 (fun _ => rel_gpB) (by decide +kernel) p
theorem km2_8 : ∀ p, D_kept_mean_behind [.d (.int 2), .d (.int 8)] p = some (.fz (tI [547, 729]), p) := fun p => by
  rw [D_kept_mean_behind, km_split]
  exact two_call rfl (.inl ⟨rfl, rfl⟩) counts2_8 (fun _ => rel_kmB) (by decide +kernel) p
theorem mn2_8 : ∀ p, D__law_means [.d (.int 2), .d (.int 8)] p = some (.fz (.tuple [(tI [547, 729]), (tI [1, 2])]), p) := fun p => by
  rw [D__law_means, mn_split]
  exact two_call rfl (.inr ⟨rfl, rfl⟩) lawc2_8 (fun _ => rel_mnB) (by decide +kernel) p
theorem wt2_9 : ∀ p, D_ways_to [.d (.int 2), .d (.int 9)] p = some (.fz (.tuple (ld2_9.map (·.2))), p) := fun p => by
  rw [D_ways_to, wt_split]
  exact two_call rfl (.inl ⟨rfl, rfl⟩) counts2_9 (fun _ => rel_wtB) (by decide +kernel) p
theorem gp2_9 : ∀ p, D_gap_behind [.d (.int 2), .d (.int 9)] p = some (.fz (tI [1, 2]), p) := fun p => by
  rw [D_gap_behind, gp_split]
  exact two_call rfl (.inl ⟨rfl, rfl⟩) wt2_9 (fun _ => rel_gpB) (by decide +kernel) p
theorem km2_9 : ∀ p, D_kept_mean_behind [.d (.int 2), .d (.int 9)] p = some (.fz (tI [4921, 6561]), p) := fun p => by
  rw [D_kept_mean_behind, km_split]
  exact two_call rfl (.inl ⟨rfl, rfl⟩) counts2_9 (fun _ => rel_kmB) (by decide +kernel) p
theorem mn2_9 : ∀ p, D__law_means [.d (.int 2), .d (.int 9)] p = some (.fz (.tuple [(tI [4921, 6561]), (tI [1, 2])]), p) := fun p => by
  rw [D__law_means, mn_split]
  exact two_call rfl (.inr ⟨rfl, rfl⟩) lawc2_9 (fun _ => rel_mnB) (by decide +kernel) p
theorem wt2_10 : ∀ p, D_ways_to [.d (.int 2), .d (.int 10)] p = some (.fz (.tuple (ld2_10.map (·.2))), p) := fun p => by
  rw [D_ways_to, wt_split]
  exact two_call rfl (.inl ⟨rfl, rfl⟩) counts2_10 (fun _ => rel_wtB) (by decide +kernel) p
theorem gp2_10 : ∀ p, D_gap_behind [.d (.int 2), .d (.int 10)] p = some (.fz (tI [1, 2]), p) := fun p => by
  rw [D_gap_behind, gp_split]
  exact two_call rfl (.inl ⟨rfl, rfl⟩) wt2_10 (fun _ => rel_gpB) (by decide +kernel) p
theorem km2_10 : ∀ p, D_kept_mean_behind [.d (.int 2), .d (.int 10)] p = some (.fz (tI [4921, 6561]), p) := fun p => by
  rw [D_kept_mean_behind, km_split]
  exact two_call rfl (.inl ⟨rfl, rfl⟩) counts2_10 (fun _ => rel_kmB) (by decide +kernel) p
theorem mn2_10 : ∀ p, D__law_means [.d (.int 2), .d (.int 10)] p = some (.fz (.tuple [(tI [4921, 6561]), (tI [1, 2])]), p) := fun p => by
  rw [D__law_means, mn_split]
  exact two_call rfl (.inr ⟨rfl, rfl⟩) lawc2_10 (fun _ => rel_mnB) (by decide +kernel) p
theorem wt2_11 : ∀ p, D_ways_to [.d (.int 2), .d (.int 11)] p = some (.fz (.tuple (ld2_11.map (·.2))), p) := fun p => by
  rw [D_ways_to, wt_split]
  exact two_call rfl (.inl ⟨rfl, rfl⟩) counts2_11 (fun _ => rel_wtB) (by decide +kernel) p
theorem gp2_11 : ∀ p, D_gap_behind [.d (.int 2), .d (.int 11)] p = some (.fz (tI [1, 2]), p) := fun p => by
  rw [D_gap_behind, gp_split]
  exact two_call rfl (.inl ⟨rfl, rfl⟩) wt2_11 (fun _ => rel_gpB) (by decide +kernel) p
theorem km2_11 : ∀ p, D_kept_mean_behind [.d (.int 2), .d (.int 11)] p = some (.fz (tI [44287, 59049]), p) := fun p => by
  rw [D_kept_mean_behind, km_split]
  exact two_call rfl (.inl ⟨rfl, rfl⟩) counts2_11 (fun _ => rel_kmB) (by decide +kernel) p
theorem mn2_11 : ∀ p, D__law_means [.d (.int 2), .d (.int 11)] p = some (.fz (.tuple [(tI [44287, 59049]), (tI [1, 2])]), p) := fun p => by
  rw [D__law_means, mn_split]
  exact two_call rfl (.inr ⟨rfl, rfl⟩) lawc2_11 (fun _ => rel_mnB) (by decide +kernel) p
theorem wt2_12 : ∀ p, D_ways_to [.d (.int 2), .d (.int 12)] p = some (.fz (.tuple (ld2_12.map (·.2))), p) := fun p => by
  rw [D_ways_to, wt_split]
  exact two_call rfl (.inl ⟨rfl, rfl⟩) counts2_12 (fun _ => rel_wtB) (by decide +kernel) p
theorem gp2_12 : ∀ p, D_gap_behind [.d (.int 2), .d (.int 12)] p = some (.fz (tI [1, 2]), p) := fun p => by
  rw [D_gap_behind, gp_split]
  exact two_call rfl (.inl ⟨rfl, rfl⟩) wt2_12 (fun _ => rel_gpB) (by decide +kernel) p
theorem wt3_0 : ∀ p, D_ways_to [.d (.int 3), .d (.int 0)] p = some (.fz (.tuple (ld3_0.map (·.2))), p) := fun p => by
  rw [D_ways_to, wt_split]
  exact two_call rfl (.inr ⟨rfl, rfl⟩) counts3_0 (fun _ => rel_wtB) (by decide +kernel) p
theorem gp3_0 : ∀ p, D_gap_behind [.d (.int 3), .d (.int 0)] p = some (.fz (tI [47, 48]), p) := fun p => by
  rw [D_gap_behind, gp_split]
  exact two_call rfl (.inl ⟨rfl, rfl⟩) wt3_0 (fun _ => rel_gpB) (by decide +kernel) p
theorem km3_0 : ∀ p, D_kept_mean_behind [.d (.int 3), .d (.int 0)] p = some (.fz (tI [4, 1]), p) := fun p => by
  rw [D_kept_mean_behind, km_split]
  exact two_call rfl (.inr ⟨rfl, rfl⟩) counts3_0 (fun _ => rel_kmB) (by decide +kernel) p
theorem mn3_0 : ∀ p, D__law_means [.d (.int 3), .d (.int 0)] p = some (.fz (.tuple [(tI [4, 1]), (tI [47, 48])]), p) := fun p => by
  rw [D__law_means, mn_split]
  exact two_call rfl (.inr ⟨rfl, rfl⟩) lawc3_0 (fun _ => rel_mnB) (by decide +kernel) p
theorem wt3_1 : ∀ p, D_ways_to [.d (.int 3), .d (.int 1)] p = some (.fz (.tuple (ld3_1.map (·.2))), p) := fun p => by
  rw [D_ways_to, wt_split]
  exact two_call rfl (.inl ⟨rfl, rfl⟩) counts3_1 (fun _ => rel_wtB) (by decide +kernel) p
theorem gp3_1 : ∀ p, D_gap_behind [.d (.int 3), .d (.int 1)] p = some (.fz (tI [7, 8]), p) := fun p => by
  rw [D_gap_behind, gp_split]
  exact two_call rfl (.inl ⟨rfl, rfl⟩) wt3_1 (fun _ => rel_gpB) (by decide +kernel) p
theorem km3_1 : ∀ p, D_kept_mean_behind [.d (.int 3), .d (.int 1)] p = some (.fz (tI [2, 1]), p) := fun p => by
  rw [D_kept_mean_behind, km_split]
  exact two_call rfl (.inl ⟨rfl, rfl⟩) counts3_1 (fun _ => rel_kmB) (by decide +kernel) p
theorem mn3_1 : ∀ p, D__law_means [.d (.int 3), .d (.int 1)] p = some (.fz (.tuple [(tI [2, 1]), (tI [7, 8])]), p) := fun p => by
  rw [D__law_means, mn_split]
  exact two_call rfl (.inr ⟨rfl, rfl⟩) lawc3_1 (fun _ => rel_mnB) (by decide +kernel) p
theorem wt3_2 : ∀ p, D_ways_to [.d (.int 3), .d (.int 2)] p = some (.fz (.tuple (ld3_2.map (·.2))), p) := fun p => by
  rw [D_ways_to, wt_split]
  exact two_call rfl (.inl ⟨rfl, rfl⟩) counts3_2 (fun _ => rel_wtB) (by decide +kernel) p
theorem gp3_2 : ∀ p, D_gap_behind [.d (.int 3), .d (.int 2)] p = some (.fz (tI [31, 48]), p) := fun p => by
  rw [D_gap_behind, gp_split]
  exact two_call rfl (.inl ⟨rfl, rfl⟩) wt3_2 (fun _ => rel_gpB) (by decide +kernel) p
theorem km3_2 : ∀ p, D_kept_mean_behind [.d (.int 3), .d (.int 2)] p = some (.fz (tI [4, 3]), p) := fun p => by
  rw [D_kept_mean_behind, km_split]
  exact two_call rfl (.inl ⟨rfl, rfl⟩) counts3_2 (fun _ => rel_kmB) (by decide +kernel) p
theorem mn3_2 : ∀ p, D__law_means [.d (.int 3), .d (.int 2)] p = some (.fz (.tuple [(tI [4, 3]), (tI [31, 48])]), p) := fun p => by
  rw [D__law_means, mn_split]
  exact two_call rfl (.inr ⟨rfl, rfl⟩) lawc3_2 (fun _ => rel_mnB) (by decide +kernel) p
theorem wt3_3 : ∀ p, D_ways_to [.d (.int 3), .d (.int 3)] p = some (.fz (.tuple (ld3_3.map (·.2))), p) := fun p => by
  rw [D_ways_to, wt_split]
  exact two_call rfl (.inl ⟨rfl, rfl⟩) counts3_3 (fun _ => rel_wtB) (by decide +kernel) p
theorem gp3_3 : ∀ p, D_gap_behind [.d (.int 3), .d (.int 3)] p = some (.fz (tI [91, 216]), p) := fun p => by
  rw [D_gap_behind, gp_split]
  exact two_call rfl (.inl ⟨rfl, rfl⟩) wt3_3 (fun _ => rel_gpB) (by decide +kernel) p
theorem km3_3 : ∀ p, D_kept_mean_behind [.d (.int 3), .d (.int 3)] p = some (.fz (tI [53, 54]), p) := fun p => by
  rw [D_kept_mean_behind, km_split]
  exact two_call rfl (.inl ⟨rfl, rfl⟩) counts3_3 (fun _ => rel_kmB) (by decide +kernel) p
theorem mn3_3 : ∀ p, D__law_means [.d (.int 3), .d (.int 3)] p = some (.fz (.tuple [(tI [53, 54]), (tI [91, 216])]), p) := fun p => by
  rw [D__law_means, mn_split]
  exact two_call rfl (.inr ⟨rfl, rfl⟩) lawc3_3 (fun _ => rel_mnB) (by decide +kernel) p
theorem wt3_4 : ∀ p, D_ways_to [.d (.int 3), .d (.int 4)] p = some (.fz (.tuple (ld3_4.map (·.2))), p) := fun p => by
  rw [D_ways_to, wt_split]
  exact two_call rfl (.inl ⟨rfl, rfl⟩) counts3_4 (fun _ => rel_wtB) (by decide +kernel) p
theorem gp3_4 : ∀ p, D_gap_behind [.d (.int 3), .d (.int 4)] p = some (.fz (tI [445, 1296]), p) := fun p => by
  rw [D_gap_behind, gp_split]
  exact two_call rfl (.inl ⟨rfl, rfl⟩) wt3_4 (fun _ => rel_gpB) (by decide +kernel) p
theorem km3_4 : ∀ p, D_kept_mean_behind [.d (.int 3), .d (.int 4)] p = some (.fz (tI [133, 162]), p) := fun p => by
  rw [D_kept_mean_behind, km_split]
  exact two_call rfl (.inl ⟨rfl, rfl⟩) counts3_4 (fun _ => rel_kmB) (by decide +kernel) p
theorem mn3_4 : ∀ p, D__law_means [.d (.int 3), .d (.int 4)] p = some (.fz (.tuple [(tI [133, 162]), (tI [445, 1296])]), p) := fun p => by
  rw [D__law_means, mn_split]
  exact two_call rfl (.inr ⟨rfl, rfl⟩) lawc3_4 (fun _ => rel_mnB) (by decide +kernel) p
theorem wt3_5 : ∀ p, D_ways_to [.d (.int 3), .d (.int 5)] p = some (.fz (.tuple (ld3_5.map (·.2))), p) := fun p => by
  rw [D_ways_to, wt_split]
  exact two_call rfl (.inl ⟨rfl, rfl⟩) counts3_5 (fun _ => rel_wtB) (by decide +kernel) p
theorem gp3_5 : ∀ p, D_gap_behind [.d (.int 3), .d (.int 5)] p = some (.fz (tI [1081, 3888]), p) := fun p => by
  rw [D_gap_behind, gp_split]
  exact two_call rfl (.inl ⟨rfl, rfl⟩) wt3_5 (fun _ => rel_gpB) (by decide +kernel) p
theorem km3_5 : ∀ p, D_kept_mean_behind [.d (.int 3), .d (.int 5)] p = some (.fz (tI [481, 648]), p) := fun p => by
  rw [D_kept_mean_behind, km_split]
  exact two_call rfl (.inl ⟨rfl, rfl⟩) counts3_5 (fun _ => rel_kmB) (by decide +kernel) p
theorem mn3_5 : ∀ p, D__law_means [.d (.int 3), .d (.int 5)] p = some (.fz (.tuple [(tI [481, 648]), (tI [1081, 3888])]), p) := fun p => by
  rw [D__law_means, mn_split]
  exact two_call rfl (.inr ⟨rfl, rfl⟩) lawc3_5 (fun _ => rel_mnB) (by decide +kernel) p
theorem wt3_6 : ∀ p, D_ways_to [.d (.int 3), .d (.int 6)] p = some (.fz (.tuple (ld3_6.map (·.2))), p) := fun p => by
  rw [D_ways_to, wt_split]
  exact two_call rfl (.inl ⟨rfl, rfl⟩) counts3_6 (fun _ => rel_wtB) (by decide +kernel) p
theorem gp3_6 : ∀ p, D_gap_behind [.d (.int 3), .d (.int 6)] p = some (.fz (tI [5203, 23328]), p) := fun p => by
  rw [D_gap_behind, gp_split]
  exact two_call rfl (.inl ⟨rfl, rfl⟩) wt3_6 (fun _ => rel_gpB) (by decide +kernel) p
theorem km3_6 : ∀ p, D_kept_mean_behind [.d (.int 3), .d (.int 6)] p = some (.fz (tI [2053, 2916]), p) := fun p => by
  rw [D_kept_mean_behind, km_split]
  exact two_call rfl (.inl ⟨rfl, rfl⟩) counts3_6 (fun _ => rel_kmB) (by decide +kernel) p
theorem mn3_6 : ∀ p, D__law_means [.d (.int 3), .d (.int 6)] p = some (.fz (.tuple [(tI [2053, 2916]), (tI [5203, 23328])]), p) := fun p => by
  rw [D__law_means, mn_split]
  exact two_call rfl (.inr ⟨rfl, rfl⟩) lawc3_6 (fun _ => rel_mnB) (by decide +kernel) p
theorem wt3_7 : ∀ p, D_ways_to [.d (.int 3), .d (.int 7)] p = some (.fz (.tuple (ld3_7.map (·.2))), p) := fun p => by
  rw [D_ways_to, wt_split]
  exact two_call rfl (.inl ⟨rfl, rfl⟩) counts3_7 (fun _ => rel_wtB) (by decide +kernel) p
theorem gp3_7 : ∀ p, D_gap_behind [.d (.int 3), .d (.int 7)] p = some (.fz (tI [8677, 46656]), p) := fun p => by
  rw [D_gap_behind, gp_split]
  exact two_call rfl (.inl ⟨rfl, rfl⟩) wt3_7 (fun _ => rel_gpB) (by decide +kernel) p
theorem km3_7 : ∀ p, D_kept_mean_behind [.d (.int 3), .d (.int 7)] p = some (.fz (tI [47953, 69984]), p) := fun p => by
  rw [D_kept_mean_behind, km_split]
  exact two_call rfl (.inl ⟨rfl, rfl⟩) counts3_7 (fun _ => rel_kmB) (by decide +kernel) p
theorem mn3_7 : ∀ p, D__law_means [.d (.int 3), .d (.int 7)] p = some (.fz (.tuple [(tI [47953, 69984]), (tI [8677, 46656])]), p) := fun p => by
  rw [D__law_means, mn_split]
  exact two_call rfl (.inr ⟨rfl, rfl⟩) lawc3_7 (fun _ => rel_mnB) (by decide +kernel) p
theorem wt3_8 : ∀ p, D_ways_to [.d (.int 3), .d (.int 8)] p = some (.fz (.tuple (ld3_8.map (·.2))), p) := fun p => by
  rw [D_ways_to, wt_split]
  exact two_call rfl (.inl ⟨rfl, rfl⟩) counts3_8 (fun _ => rel_wtB) (by decide +kernel) p
theorem gp3_8 : ∀ p, D_gap_behind [.d (.int 3), .d (.int 8)] p = some (.fz (tI [130187, 839808]), p) := fun p => by
  rw [D_gap_behind, gp_split]
  exact two_call rfl (.inl ⟨rfl, rfl⟩) wt3_8 (fun _ => rel_gpB) (by decide +kernel) p
theorem km3_8 : ∀ p, D_kept_mean_behind [.d (.int 3), .d (.int 8)] p = some (.fz (tI [15767, 23328]), p) := fun p => by
  rw [D_kept_mean_behind, km_split]
  exact two_call rfl (.inl ⟨rfl, rfl⟩) counts3_8 (fun _ => rel_kmB) (by decide +kernel) p
theorem mn3_8 : ∀ p, D__law_means [.d (.int 3), .d (.int 8)] p = some (.fz (.tuple [(tI [15767, 23328]), (tI [130187, 839808])]), p) := fun p => by
  rw [D__law_means, mn_split]
  exact two_call rfl (.inr ⟨rfl, rfl⟩) lawc3_8 (fun _ => rel_mnB) (by decide +kernel) p
theorem wt3_9 : ∀ p, D_ways_to [.d (.int 3), .d (.int 9)] p = some (.fz (.tuple (ld3_9.map (·.2))), p) := fun p => by
  rw [D_ways_to, wt_split]
  exact two_call rfl (.inl ⟨rfl, rfl⟩) counts3_9 (fun _ => rel_wtB) (by decide +kernel) p
theorem gp3_9 : ∀ p, D_gap_behind [.d (.int 3), .d (.int 9)] p = some (.fz (tI [650999, 5038848]), p) := fun p => by
  rw [D_gap_behind, gp_split]
  exact two_call rfl (.inl ⟨rfl, rfl⟩) wt3_9 (fun _ => rel_gpB) (by decide +kernel) p
theorem km3_9 : ∀ p, D_kept_mean_behind [.d (.int 3), .d (.int 9)] p = some (.fz (tI [1691183, 2519424]), p) := fun p => by
  rw [D_kept_mean_behind, km_split]
  exact two_call rfl (.inl ⟨rfl, rfl⟩) counts3_9 (fun _ => rel_kmB) (by decide +kernel) p
theorem mn3_9 : ∀ p, D__law_means [.d (.int 3), .d (.int 9)] p = some (.fz (.tuple [(tI [1691183, 2519424]), (tI [650999, 5038848])]), p) := fun p => by
  rw [D__law_means, mn_split]
  exact two_call rfl (.inr ⟨rfl, rfl⟩) lawc3_9 (fun _ => rel_mnB) (by decide +kernel) p
theorem wt3_10 : ∀ p, D_ways_to [.d (.int 3), .d (.int 10)] p = some (.fz (.tuple (ld3_10.map (·.2))), p) := fun p => by
  rw [D_ways_to, wt_split]
  exact two_call rfl (.inl ⟨rfl, rfl⟩) counts3_10 (fun _ => rel_wtB) (by decide +kernel) p
theorem gp3_10 : ∀ p, D_gap_behind [.d (.int 3), .d (.int 10)] p = some (.fz (tI [1085041, 10077696]), p) := fun p => by
  rw [D_gap_behind, gp_split]
  exact two_call rfl (.inl ⟨rfl, rfl⟩) wt3_10 (fun _ => rel_gpB) (by decide +kernel) p
theorem km3_10 : ∀ p, D_kept_mean_behind [.d (.int 3), .d (.int 10)] p = some (.fz (tI [1264039, 1889568]), p) := fun p => by
  rw [D_kept_mean_behind, km_split]
  exact two_call rfl (.inl ⟨rfl, rfl⟩) counts3_10 (fun _ => rel_kmB) (by decide +kernel) p
theorem mn3_10 : ∀ p, D__law_means [.d (.int 3), .d (.int 10)] p = some (.fz (.tuple [(tI [1264039, 1889568]), (tI [1085041, 10077696])]), p) := fun p => by
  rw [D__law_means, mn_split]
  exact two_call rfl (.inr ⟨rfl, rfl⟩) lawc3_10 (fun _ => rel_mnB) (by decide +kernel) p
theorem wt3_11 : ∀ p, D_ways_to [.d (.int 3), .d (.int 11)] p = some (.fz (.tuple (ld3_11.map (·.2))), p) := fun p => by
  rw [D_ways_to, wt_split]
  exact two_call rfl (.inl ⟨rfl, rfl⟩) counts3_11 (fun _ => rel_wtB) (by decide +kernel) p
theorem gp3_11 : ∀ p, D_gap_behind [.d (.int 3), .d (.int 11)] p = some (.fz (tI [16275871, 181398528]), p) := fun p => by
  rw [D_gap_behind, gp_split]
  exact two_call rfl (.inl ⟨rfl, rfl⟩) wt3_11 (fun _ => rel_gpB) (by decide +kernel) p
theorem km3_11 : ∀ p, D_kept_mean_behind [.d (.int 3), .d (.int 11)] p = some (.fz (tI [20189951, 30233088]), p) := fun p => by
  rw [D_kept_mean_behind, km_split]
  exact two_call rfl (.inl ⟨rfl, rfl⟩) counts3_11 (fun _ => rel_kmB) (by decide +kernel) p
theorem mn3_11 : ∀ p, D__law_means [.d (.int 3), .d (.int 11)] p = some (.fz (.tuple [(tI [20189951, 30233088]), (tI [16275871, 181398528])]), p) := fun p => by
  rw [D__law_means, mn_split]
  exact two_call rfl (.inr ⟨rfl, rfl⟩) lawc3_11 (fun _ => rel_mnB) (by decide +kernel) p
theorem wt3_12 : ∀ p, D_ways_to [.d (.int 3), .d (.int 12)] p = some (.fz (.tuple (ld3_12.map (·.2))), p) := fun p => by
  rw [D_ways_to, wt_split]
  exact two_call rfl (.inl ⟨rfl, rfl⟩) counts3_12 (fun _ => rel_wtB) (by decide +kernel) p
theorem gp3_12 : ∀ p, D_gap_behind [.d (.int 3), .d (.int 12)] p = some (.fz (tI [81379867, 1088391168]), p) := fun p => by
  rw [D_gap_behind, gp_split]
  exact two_call rfl (.inl ⟨rfl, rfl⟩) wt3_12 (fun _ => rel_gpB) (by decide +kernel) p
structure Mk (n m : Nat) (a b c d e f : Int) : Prop where
  mn : ∀ p, D__law_means [.d (.int (n : Int)), .d (.int (m : Int))] p = some (.fz (.tuple [tI [a, b], tI [c, d]]), p)
  km : ∀ p, D_kept_mean_behind [.d (.int (n : Int)), .d (.int (m : Int))] p = some (.fz (tI [a, b]), p)
  gp : ∀ p, D_gap_behind [.d (.int (n : Int)), .d (.int (m : Int))] p = some (.fz (tI [c, d]), p)
  g2 : ∀ p, D_gap_behind [.d (.int (n : Int)), .d (.int ((m : Int) + 1))] p = some (.fz (tI [e, f]), p)
  sh : canShow (.list [.list [tI [a, b], tI [c, d]], .list [tI [a, b], tI [c, d]]]) = true
  sa : small a = true
  sb : small b = true
  sc : small c = true
  se : small e = true
  s1 : small ((n : Int) - 1) = true
  s2 : small ((n : Int) + 1) = true
  hm : m ≤ 1000
  h1 : ¬ ((n : Int) = 3 ∧ e * d > c * f)
  h2 : ¬ ((n : Int) < 3 ∧ 2 * c < d)
  h3 : ¬ a * ((List.range m).foldl (m9g n) ((n : Int) + 1, 1)).2 < ((List.range m).foldl (m9g n) ((n : Int) + 1, 1)).1 * b
theorem mk1_0 : ∃ a b c d e f, Mk 1 0 a b c d e f := ⟨_, _, _, _, _, _, mn1_0, km1_0, gp1_0, gp1_1, by decide +kernel, by decide +kernel, by decide +kernel, by decide +kernel, by decide +kernel, by decide +kernel, by decide +kernel, by decide +kernel, by decide +kernel, by decide +kernel, by decide +kernel⟩
theorem mk1_1 : ∃ a b c d e f, Mk 1 1 a b c d e f := ⟨_, _, _, _, _, _, mn1_1, km1_1, gp1_1, gp1_2, by decide +kernel, by decide +kernel, by decide +kernel, by decide +kernel, by decide +kernel, by decide +kernel, by decide +kernel, by decide +kernel, by decide +kernel, by decide +kernel, by decide +kernel⟩
theorem mk1_2 : ∃ a b c d e f, Mk 1 2 a b c d e f := ⟨_, _, _, _, _, _, mn1_2, km1_2, gp1_2, gp1_3, by decide +kernel, by decide +kernel, by decide +kernel, by decide +kernel, by decide +kernel, by decide +kernel, by decide +kernel, by decide +kernel, by decide +kernel, by decide +kernel, by decide +kernel⟩
theorem mk1_3 : ∃ a b c d e f, Mk 1 3 a b c d e f := ⟨_, _, _, _, _, _, mn1_3, km1_3, gp1_3, gp1_4, by decide +kernel, by decide +kernel, by decide +kernel, by decide +kernel, by decide +kernel, by decide +kernel, by decide +kernel, by decide +kernel, by decide +kernel, by decide +kernel, by decide +kernel⟩
theorem mk1_4 : ∃ a b c d e f, Mk 1 4 a b c d e f := ⟨_, _, _, _, _, _, mn1_4, km1_4, gp1_4, gp1_5, by decide +kernel, by decide +kernel, by decide +kernel, by decide +kernel, by decide +kernel, by decide +kernel, by decide +kernel, by decide +kernel, by decide +kernel, by decide +kernel, by decide +kernel⟩
theorem mk1_5 : ∃ a b c d e f, Mk 1 5 a b c d e f := ⟨_, _, _, _, _, _, mn1_5, km1_5, gp1_5, gp1_6, by decide +kernel, by decide +kernel, by decide +kernel, by decide +kernel, by decide +kernel, by decide +kernel, by decide +kernel, by decide +kernel, by decide +kernel, by decide +kernel, by decide +kernel⟩
theorem mk1_6 : ∃ a b c d e f, Mk 1 6 a b c d e f := ⟨_, _, _, _, _, _, mn1_6, km1_6, gp1_6, gp1_7, by decide +kernel, by decide +kernel, by decide +kernel, by decide +kernel, by decide +kernel, by decide +kernel, by decide +kernel, by decide +kernel, by decide +kernel, by decide +kernel, by decide +kernel⟩
theorem mk1_7 : ∃ a b c d e f, Mk 1 7 a b c d e f := ⟨_, _, _, _, _, _, mn1_7, km1_7, gp1_7, gp1_8, by decide +kernel, by decide +kernel, by decide +kernel, by decide +kernel, by decide +kernel, by decide +kernel, by decide +kernel, by decide +kernel, by decide +kernel, by decide +kernel, by decide +kernel⟩
theorem mk1_8 : ∃ a b c d e f, Mk 1 8 a b c d e f := ⟨_, _, _, _, _, _, mn1_8, km1_8, gp1_8, gp1_9, by decide +kernel, by decide +kernel, by decide +kernel, by decide +kernel, by decide +kernel, by decide +kernel, by decide +kernel, by decide +kernel, by decide +kernel, by decide +kernel, by decide +kernel⟩
theorem mk1_9 : ∃ a b c d e f, Mk 1 9 a b c d e f := ⟨_, _, _, _, _, _, mn1_9, km1_9, gp1_9, gp1_10, by decide +kernel, by decide +kernel, by decide +kernel, by decide +kernel, by decide +kernel, by decide +kernel, by decide +kernel, by decide +kernel, by decide +kernel, by decide +kernel, by decide +kernel⟩
theorem mk1_10 : ∃ a b c d e f, Mk 1 10 a b c d e f := ⟨_, _, _, _, _, _, mn1_10, km1_10, gp1_10, gp1_11, by decide +kernel, by decide +kernel, by decide +kernel, by decide +kernel, by decide +kernel, by decide +kernel, by decide +kernel, by decide +kernel, by decide +kernel, by decide +kernel, by decide +kernel⟩
theorem mk1_11 : ∃ a b c d e f, Mk 1 11 a b c d e f := ⟨_, _, _, _, _, _, mn1_11, km1_11, gp1_11, gp1_12, by decide +kernel, by decide +kernel, by decide +kernel, by decide +kernel, by decide +kernel, by decide +kernel, by decide +kernel, by decide +kernel, by decide +kernel, by decide +kernel, by decide +kernel⟩
theorem mk2_0 : ∃ a b c d e f, Mk 2 0 a b c d e f := ⟨_, _, _, _, _, _, mn2_0, km2_0, gp2_0, gp2_1, by decide +kernel, by decide +kernel, by decide +kernel, by decide +kernel, by decide +kernel, by decide +kernel, by decide +kernel, by decide +kernel, by decide +kernel, by decide +kernel, by decide +kernel⟩
theorem mk2_1 : ∃ a b c d e f, Mk 2 1 a b c d e f := ⟨_, _, _, _, _, _, mn2_1, km2_1, gp2_1, gp2_2, by decide +kernel, by decide +kernel, by decide +kernel, by decide +kernel, by decide +kernel, by decide +kernel, by decide +kernel, by decide +kernel, by decide +kernel, by decide +kernel, by decide +kernel⟩
theorem mk2_2 : ∃ a b c d e f, Mk 2 2 a b c d e f := ⟨_, _, _, _, _, _, mn2_2, km2_2, gp2_2, gp2_3, by decide +kernel, by decide +kernel, by decide +kernel, by decide +kernel, by decide +kernel, by decide +kernel, by decide +kernel, by decide +kernel, by decide +kernel, by decide +kernel, by decide +kernel⟩
theorem mk2_3 : ∃ a b c d e f, Mk 2 3 a b c d e f := ⟨_, _, _, _, _, _, mn2_3, km2_3, gp2_3, gp2_4, by decide +kernel, by decide +kernel, by decide +kernel, by decide +kernel, by decide +kernel, by decide +kernel, by decide +kernel, by decide +kernel, by decide +kernel, by decide +kernel, by decide +kernel⟩
theorem mk2_4 : ∃ a b c d e f, Mk 2 4 a b c d e f := ⟨_, _, _, _, _, _, mn2_4, km2_4, gp2_4, gp2_5, by decide +kernel, by decide +kernel, by decide +kernel, by decide +kernel, by decide +kernel, by decide +kernel, by decide +kernel, by decide +kernel, by decide +kernel, by decide +kernel, by decide +kernel⟩
theorem mk2_5 : ∃ a b c d e f, Mk 2 5 a b c d e f := ⟨_, _, _, _, _, _, mn2_5, km2_5, gp2_5, gp2_6, by decide +kernel, by decide +kernel, by decide +kernel, by decide +kernel, by decide +kernel, by decide +kernel, by decide +kernel, by decide +kernel, by decide +kernel, by decide +kernel, by decide +kernel⟩
theorem mk2_6 : ∃ a b c d e f, Mk 2 6 a b c d e f := ⟨_, _, _, _, _, _, mn2_6, km2_6, gp2_6, gp2_7, by decide +kernel, by decide +kernel, by decide +kernel, by decide +kernel, by decide +kernel, by decide +kernel, by decide +kernel, by decide +kernel, by decide +kernel, by decide +kernel, by decide +kernel⟩
theorem mk2_7 : ∃ a b c d e f, Mk 2 7 a b c d e f := ⟨_, _, _, _, _, _, mn2_7, km2_7, gp2_7, gp2_8, by decide +kernel, by decide +kernel, by decide +kernel, by decide +kernel, by decide +kernel, by decide +kernel, by decide +kernel, by decide +kernel, by decide +kernel, by decide +kernel, by decide +kernel⟩
theorem mk2_8 : ∃ a b c d e f, Mk 2 8 a b c d e f := ⟨_, _, _, _, _, _, mn2_8, km2_8, gp2_8, gp2_9, by decide +kernel, by decide +kernel, by decide +kernel, by decide +kernel, by decide +kernel, by decide +kernel, by decide +kernel, by decide +kernel, by decide +kernel, by decide +kernel, by decide +kernel⟩
theorem mk2_9 : ∃ a b c d e f, Mk 2 9 a b c d e f := ⟨_, _, _, _, _, _, mn2_9, km2_9, gp2_9, gp2_10, by decide +kernel, by decide +kernel, by decide +kernel, by decide +kernel, by decide +kernel, by decide +kernel, by decide +kernel, by decide +kernel, by decide +kernel, by decide +kernel, by decide +kernel⟩
theorem mk2_10 : ∃ a b c d e f, Mk 2 10 a b c d e f := ⟨_, _, _, _, _, _, mn2_10, km2_10, gp2_10, gp2_11, by decide +kernel, by decide +kernel, by decide +kernel, by decide +kernel, by decide +kernel, by decide +kernel, by decide +kernel, by decide +kernel, by decide +kernel, by decide +kernel, by decide +kernel⟩
theorem mk2_11 : ∃ a b c d e f, Mk 2 11 a b c d e f := ⟨_, _, _, _, _, _, mn2_11, km2_11, gp2_11, gp2_12, by decide +kernel, by decide +kernel, by decide +kernel, by decide +kernel, by decide +kernel, by decide +kernel, by decide +kernel, by decide +kernel, by decide +kernel, by decide +kernel, by decide +kernel⟩
theorem mk3_0 : ∃ a b c d e f, Mk 3 0 a b c d e f := ⟨_, _, _, _, _, _, mn3_0, km3_0, gp3_0, gp3_1, by decide +kernel, by decide +kernel, by decide +kernel, by decide +kernel, by decide +kernel, by decide +kernel, by decide +kernel, by decide +kernel, by decide +kernel, by decide +kernel, by decide +kernel⟩
theorem mk3_1 : ∃ a b c d e f, Mk 3 1 a b c d e f := ⟨_, _, _, _, _, _, mn3_1, km3_1, gp3_1, gp3_2, by decide +kernel, by decide +kernel, by decide +kernel, by decide +kernel, by decide +kernel, by decide +kernel, by decide +kernel, by decide +kernel, by decide +kernel, by decide +kernel, by decide +kernel⟩
theorem mk3_2 : ∃ a b c d e f, Mk 3 2 a b c d e f := ⟨_, _, _, _, _, _, mn3_2, km3_2, gp3_2, gp3_3, by decide +kernel, by decide +kernel, by decide +kernel, by decide +kernel, by decide +kernel, by decide +kernel, by decide +kernel, by decide +kernel, by decide +kernel, by decide +kernel, by decide +kernel⟩
theorem mk3_3 : ∃ a b c d e f, Mk 3 3 a b c d e f := ⟨_, _, _, _, _, _, mn3_3, km3_3, gp3_3, gp3_4, by decide +kernel, by decide +kernel, by decide +kernel, by decide +kernel, by decide +kernel, by decide +kernel, by decide +kernel, by decide +kernel, by decide +kernel, by decide +kernel, by decide +kernel⟩
theorem mk3_4 : ∃ a b c d e f, Mk 3 4 a b c d e f := ⟨_, _, _, _, _, _, mn3_4, km3_4, gp3_4, gp3_5, by decide +kernel, by decide +kernel, by decide +kernel, by decide +kernel, by decide +kernel, by decide +kernel, by decide +kernel, by decide +kernel, by decide +kernel, by decide +kernel, by decide +kernel⟩
theorem mk3_5 : ∃ a b c d e f, Mk 3 5 a b c d e f := ⟨_, _, _, _, _, _, mn3_5, km3_5, gp3_5, gp3_6, by decide +kernel, by decide +kernel, by decide +kernel, by decide +kernel, by decide +kernel, by decide +kernel, by decide +kernel, by decide +kernel, by decide +kernel, by decide +kernel, by decide +kernel⟩
theorem mk3_6 : ∃ a b c d e f, Mk 3 6 a b c d e f := ⟨_, _, _, _, _, _, mn3_6, km3_6, gp3_6, gp3_7, by decide +kernel, by decide +kernel, by decide +kernel, by decide +kernel, by decide +kernel, by decide +kernel, by decide +kernel, by decide +kernel, by decide +kernel, by decide +kernel, by decide +kernel⟩
theorem mk3_7 : ∃ a b c d e f, Mk 3 7 a b c d e f := ⟨_, _, _, _, _, _, mn3_7, km3_7, gp3_7, gp3_8, by decide +kernel, by decide +kernel, by decide +kernel, by decide +kernel, by decide +kernel, by decide +kernel, by decide +kernel, by decide +kernel, by decide +kernel, by decide +kernel, by decide +kernel⟩
theorem mk3_8 : ∃ a b c d e f, Mk 3 8 a b c d e f := ⟨_, _, _, _, _, _, mn3_8, km3_8, gp3_8, gp3_9, by decide +kernel, by decide +kernel, by decide +kernel, by decide +kernel, by decide +kernel, by decide +kernel, by decide +kernel, by decide +kernel, by decide +kernel, by decide +kernel, by decide +kernel⟩
theorem mk3_9 : ∃ a b c d e f, Mk 3 9 a b c d e f := ⟨_, _, _, _, _, _, mn3_9, km3_9, gp3_9, gp3_10, by decide +kernel, by decide +kernel, by decide +kernel, by decide +kernel, by decide +kernel, by decide +kernel, by decide +kernel, by decide +kernel, by decide +kernel, by decide +kernel, by decide +kernel⟩
theorem mk3_10 : ∃ a b c d e f, Mk 3 10 a b c d e f := ⟨_, _, _, _, _, _, mn3_10, km3_10, gp3_10, gp3_11, by decide +kernel, by decide +kernel, by decide +kernel, by decide +kernel, by decide +kernel, by decide +kernel, by decide +kernel, by decide +kernel, by decide +kernel, by decide +kernel, by decide +kernel⟩
theorem mk3_11 : ∃ a b c d e f, Mk 3 11 a b c d e f := ⟨_, _, _, _, _, _, mn3_11, km3_11, gp3_11, gp3_12, by decide +kernel, by decide +kernel, by decide +kernel, by decide +kernel, by decide +kernel, by decide +kernel, by decide +kernel, by decide +kernel, by decide +kernel, by decide +kernel, by decide +kernel⟩
end Rg
namespace Rg
open PySem L2
section
variable {e0 e1 e2 e3 e4 e5 e6 e7 e8 e9 e10 e11 e12 e13 e14 e15 e16 : Option Sl} {p : Option PotSt} {z z1 z2 : PotSt}
theorem n1_args {z z1 : PotSt} {r : Int} (h : D__law_draw [.p, .d (.int 24)] (some z) = some (.fz (.int r), some z1)) :
    (dCons (dVar 1) (dCons (dLst (dCons (dLit (.int 1)) (dCons (dLit (.int 3)) (dCons (dOp opAdd (dLit (.int 1)) (dCallF D__law_draw 2 0 [0, 1] (dCons (dVar 1) (dCons (dLit (.int 24)) dNil)) dNil)) (dCons (dLit (.int 24)) dNil))))) dNil)) ⟨[e0, some .pt, e2, e3, e4, e5, e6, e7, e8, e9, e10, e11, e12, e13, e14, e15, e16], some z⟩ =
      some ([.pt, .fz (.list [.int 1, .int 3, .int (1 + r), .int 24])], ⟨[e0, some .pt, e2, e3, e4, e5, e6, e7, e8, e9, e10, e11, e12, e13, e14, e15, e16], some z1⟩) := by
  have hc := call2 (D := D__law_draw) (f := dVar 1) (g := dLit (.int 24)) (x := .pt) (s := ⟨[e0, some .pt, e2, e3, e4, e5, e6, e7, e8, e9, e10, e11, e12, e13, e14, e15, e16], some z⟩) rfl rfl rfl rfl h rfl
  have l4 : (4 : Nat) ≤ lim := by decide
  generalize dCallF D__law_draw 2 0 [0, 1] (dCons (dVar 1) (dCons (dLit (.int 24)) dNil)) dNil = F at *
  simp [dCons, dNil, dLst, dOp, dSet, dVar, dLit, settle, hc, cont, opAdd, frzAll, Vl.isFr, frz, l4]
theorem n1_ok (hz : Good z) : ∃ k : Nat, 1 ≤ k ∧ k ≤ 24 ∧ ∃ z', Good z' ∧ n1 ⟨[e0, some .pt, e2, e3, e4, e5, e6, e7, e8, e9, e10, e11, e12, e13, e14, e15, e16], some z⟩ = some (.nx, ⟨[e0, some .pt, e2, some (.fz (.int k)), e4, e5, e6, e7, e8, e9, e10, e11, e12, e13, e14, e15, e16], some z'⟩) := by
  obtain ⟨p1, p2, p3⟩ := drawA_range z 24
  have q1 := draw_ok 24 (by decide) z hz
  have hz1 := drawA_good z 24 hz
  have p2 := p2 (by decide)
  generalize drawA z 24 = y at *
  obtain ⟨r, z1⟩ := y
  dsimp only at *
  obtain ⟨d, hd, z2, hz2, h2⟩ := pick_ok (rows := [.int 1, .int 3, .int (1 + r), .int 24]) (show 2 ≤ 4 by decide) (show 4 < 1000 by decide) hz1
  have hk : ∃ k : Nat, 1 ≤ k ∧ k ≤ 24 ∧ d = .int k := by
    simp only [List.mem_cons, List.not_mem_nil, or_false] at hd
    rcases hd with rfl | rfl | rfl | rfl
    · exact ⟨1, by decide, by decide, rfl⟩
    · exact ⟨3, by decide, by decide, rfl⟩
    · exact ⟨(1 + r).toNat, by omega, by omega, by rw [Int.toNat_of_nonneg (by omega)]⟩
    · exact ⟨24, by decide, by decide, rfl⟩
  obtain ⟨k, k1, k2, rfl⟩ := hk
  refine ⟨k, k1, k2, z2, hz2, ?_⟩
  have ha := n1_args (e0 := e0) (e2 := e2) (e3 := e3) (e4 := e4) (e5 := e5) (e6 := e6) (e7 := e7) (e8 := e8) (e9 := e9) (e10 := e10) (e11 := e11) (e12 := e12) (e13 := e13) (e14 := e14) (e15 := e15) (e16 := e16) q1
  exact asg_of (callF_of (D := D__law_pick) (n := 2) (m := 0) (ord := [0, 1]) (gk := dNil) ha rfl ⟨rfl, rfl, rfl⟩ rfl h2 rfl) rfl rfl
theorem n2_ok {k : Nat} {r : Int} (h : D__law_draw [.p, .d (.int ((k : Int) + 1))] (some z) = some (.fz (.int r), some z1)) : n2 ⟨[e0, some .pt, e2, some (.fz (.int k)), e4, e5, e6, e7, e8, e9, e10, e11, e12, e13, e14, e15, e16], some z⟩ = some (.nx, ⟨[e0, some .pt, e2, some (.fz (.int k)), e4, e5, e6, e7, e8, e9, e10, e11, e12, some (.fz (.int r)), some (.fz (.int 0)), e15, e16], some z1⟩) := by
  have hc := call2 (D := D__law_draw) (f := dVar 1) (g := dOp opAdd (dVar 3) (dLit (.int 1))) (x := .pt) (y := .fz (.int ((k : Int) + 1))) (s := ⟨[e0, some .pt, e2, some (.fz (.int k)), e4, e5, e6, e7, e8, e9, e10, e11, e12, e13, e14, e15, e16], some z⟩) rfl rfl rfl rfl h rfl
  unfold n2
  generalize dCallF D__law_draw 2 0 [0, 1] (dCons (dVar 1) (dCons (dOp opAdd (dVar 3) (dLit (.int 1))) dNil)) dNil = F at *
  simp [dPar, dConsP, dNil, hc, dLit, noSls, Vl.isSl, unsl, gsCons, gsNil, gVar, slOf, S.put]
end
def chkN : Bool := (List.range 25).all fun k => (List.range (k + 1)).all fun pl => (dueF k pl == k) && (((turnsF k).filter (cutT pl)).length == k) && canShow (.list [.int (k : Int), .int (k : Int)])
theorem chkN_ok : chkN = true := by decide +kernel
theorem of_chkN {k pl : Nat} (h1 : k ≤ 24) (h2 : pl ≤ k) : dueF k pl = k ∧ ((turnsF k).filter (cutT pl)).length = k ∧ canShow (.list [.int (k : Int), .int (k : Int)]) = true := by
  have h := List.all_eq_true.mp (List.all_eq_true.mp chkN_ok k (List.mem_range.mpr (by omega))) pl (List.mem_range.mpr (by omega))
  simp only [Bool.and_eq_true, beq_iff_eq] at h
  exact ⟨h.1.1, h.1.2, h.2⟩
section
variable {e0 e1 e2 e3 e4 e5 e6 e7 e8 e9 e10 e11 e12 e13 e14 e15 e16 : Option Sl} {z : PotSt}
theorem nturn_ok (hz : Good z) : ∃ f3 f13 f14 f15 z', Good z' ∧ nBody ⟨[e0, some .pt, e2, e3, e4, e5, e6, e7, e8, e9, e10, e11, e12, e13, e14, e15, none], some z⟩ = some (.nx, ⟨[e0, some .pt, e2, f3, e4, e5, e6, e7, e8, e9, e10, e11, e12, f13, f14, f15, none], some z'⟩) := by
  obtain ⟨k, k1, k2, z1, hz1, a1⟩ := n1_ok (e0 := e0) (e2 := e2) (e3 := e3) (e4 := e4) (e5 := e5) (e6 := e6) (e7 := e7) (e8 := e8) (e9 := e9) (e10 := e10) (e11 := e11) (e12 := e12) (e13 := e13) (e14 := e14) (e15 := e15) (e16 := none) hz
  obtain ⟨p1, p2, p3⟩ := drawA_range z1 ((k : Int) + 1)
  have q1 := draw_ok ((k : Int) + 1) (by omega) z1 hz1
  have hz2 := drawA_good z1 ((k : Int) + 1) hz1
  have p2 := p2 (by omega)
  generalize drawA z1 ((k : Int) + 1) = y at *
  obtain ⟨r, z2⟩ := y
  dsimp only at *
  obtain ⟨pl, rfl⟩ := Int.eq_ofNat_of_zero_le p1
  obtain ⟨c1, c2, c3⟩ := of_chkN (k := k) (pl := pl) k2 (by omega)
  have a2 := n2_ok (e0 := e0) (e2 := e2) (e4 := e4) (e5 := e5) (e6 := e6) (e7 := e7) (e8 := e8) (e9 := e9) (e10 := e10) (e11 := e11) (e12 := e12) (e13 := e13) (e14 := e14) (e15 := e15) (e16 := none) q1
  obtain ⟨f15, a3⟩ := n3_ok (e0 := e0) (e1 := some .pt) (e2 := e2) (e4 := e4) (e5 := e5) (e6 := e6) (e7 := e7) (e8 := e8) (e9 := e9) (e10 := e10) (e11 := e11) (e12 := e12) (e15 := e15) (e16 := none) (p := some z2) (n := k) (pl := pl) (by omega) rfl
  have hc := cutting_ok (n := k) (pl := pl) (by omega) (some z2)
  rw [c2] at hc
  rw [c1] at a3
  have a4 := n4_ok (e0 := e0) (e1 := some .pt) (e2 := e2) (e4 := e4) (e5 := e5) (e6 := e6) (e7 := e7) (e8 := e8) (e9 := e9) (e10 := e10) (e11 := e11) (e12 := e12) (e15 := f15) (e16 := none) hc rfl c3
  refine ⟨some (.fz (.int k)), some (.fz (.int pl)), some (.fz (.int k)), f15, z2, hz2, ?_⟩
  unfold nBody
  rw [seq_nx a1, seq_nx a2, seq_nx a3, seq_nx a4]
  rfl
theorem mturn_ok {n m : Nat} {a b c d e f : Int} (t : Mk n m a b c d e f) {z1 z2 : PotSt} {r1 r2 : Int} (d1 : D__law_draw [.p, .d (.int 3)] (some z) = some (.fz (.int r1), some z1)) (d2 : D__law_draw [.p, .d (.int 12)] (some z1) = some (.fz (.int r2), some z2)) (g1 : 1 + r1 = n) (g2 : r2 = m) :
    ∃ f3 f4 f5 f6 f7 f8 f9 f10 f11 f12, mBody ⟨[e0, some .pt, e2, e3, e4, e5, e6, e7, e8, e9, e10, e11, e12, e13, e14, e15, e16], some z⟩ = some (.nx, ⟨[e0, some .pt, e2, f3, f4, f5, f6, f7, f8, f9, f10, f11, f12, e13, e14, e15, e16], some z2⟩) := by
  have a1 := m1_ok d1 d2 (e0 := e0) (e2 := e2) (e3 := e3) (e4 := e4) (e5 := e5) (e6 := e6) (e7 := e7) (e8 := e8) (e9 := e9) (e10 := e10) (e11 := e11) (e12 := e12) (e13 := e13) (e14 := e14) (e15 := e15) (e16 := e16)
  rw [g1, g2] at a1
  have a2 := m2_ok (t.mn (some z2)) (e0 := e0) (e1 := some .pt) (e2 := e2) (e5 := e5) (e6 := e6) (e7 := e7) (e8 := e8) (e9 := e9) (e10 := e10) (e11 := e11) (e12 := e12) (e13 := e13) (e14 := e14) (e15 := e15) (e16 := e16)
  have a3 := m3_ok (t.km (some z2)) (t.gp (some z2)) (e0 := e0) (e1 := some .pt) (e2 := e2) (e5 := some (.fz (tI [a, b]))) (e6 := some (.fz (tI [c, d]))) (e7 := e7) (e8 := e8) (e9 := e9) (e10 := e10) (e11 := e11) (e12 := e12) (e13 := e13) (e14 := e14) (e15 := e15) (e16 := e16)
  have a4 := m4_ok (t.km (some z2)) (t.gp (some z2)) (e0 := e0) (e1 := some .pt) (e2 := e2) (e5 := some (.fz (tI [a, b]))) (e6 := some (.fz (tI [c, d]))) (e7 := some (.own (.list [tI [a, b], tI [c, d]]))) (e8 := e8) (e9 := e9) (e10 := e10) (e11 := e11) (e12 := e12) (e13 := e13) (e14 := e14) (e15 := e15) (e16 := e16)
  have a5 := m5_ok t.sh (e0 := e0) (e1 := some .pt) (e2 := e2) (e3 := some (.fz (.int n))) (e4 := some (.fz (.int m))) (e9 := e9) (e10 := e10) (e11 := e11) (e12 := e12) (e13 := e13) (e14 := e14) (e15 := e15) (e16 := e16) (p := some z2)
  have a6 := m6_ok (t.g2 (some z2)) (e0 := e0) (e1 := some .pt) (e2 := e2) (e5 := some (.fz (tI [a, b]))) (e6 := some (.fz (tI [c, d]))) (e7 := some (.fz (.list [tI [a, b], tI [c, d]]))) (e8 := some (.fz (.list [tI [a, b], tI [c, d]]))) (e9 := e9) (e10 := e10) (e11 := e11) (e12 := e12) (e13 := e13) (e14 := e14) (e15 := e15) (e16 := e16)
  have a7 := m7_ok t.sc t.se t.h1 t.h2 (e0 := e0) (e1 := some .pt) (e2 := e2) (e4 := some (.fz (.int m))) (e5 := some (.fz (tI [a, b]))) (e7 := some (.fz (.list [tI [a, b], tI [c, d]]))) (e8 := some (.fz (.list [tI [a, b], tI [c, d]]))) (e10 := e10) (e11 := e11) (e12 := e12) (e13 := e13) (e14 := e14) (e15 := e15) (e16 := e16) (p := some z2)
  have a8 := m8_ok (n := n) (e0 := e0) (e1 := some .pt) (e2 := e2) (e4 := some (.fz (.int m))) (e5 := some (.fz (tI [a, b]))) (e6 := some (.fz (tI [c, d]))) (e7 := some (.fz (.list [tI [a, b], tI [c, d]]))) (e8 := some (.fz (.list [tI [a, b], tI [c, d]]))) (e9 := some (.fz (tI [e, f]))) (e10 := e10) (e11 := e11) (e12 := e12) (e13 := e13) (e14 := e14) (e15 := e15) (e16 := e16) (p := some z2)
  obtain ⟨f12, a9⟩ := m9_ok t.hm t.s1 t.s2 (a := (n : Int) + 1) (b := 1) (e0 := e0) (e1 := some .pt) (e2 := e2) (e5 := some (.fz (tI [a, b]))) (e6 := some (.fz (tI [c, d]))) (e7 := some (.fz (.list [tI [a, b], tI [c, d]]))) (e8 := some (.fz (.list [tI [a, b], tI [c, d]]))) (e9 := some (.fz (tI [e, f]))) (e12 := e12) (e13 := e13) (e14 := e14) (e15 := e15) (e16 := e16) (p := some z2)
  have a10 := m10_ok t.sa t.sb t.h3 (e0 := e0) (e1 := some .pt) (e2 := e2) (e3 := some (.fz (.int n))) (e4 := some (.fz (.int m))) (e6 := some (.fz (tI [c, d]))) (e7 := some (.fz (.list [tI [a, b], tI [c, d]]))) (e8 := some (.fz (.list [tI [a, b], tI [c, d]]))) (e9 := some (.fz (tI [e, f]))) (e12 := f12) (e13 := e13) (e14 := e14) (e15 := e15) (e16 := e16) (p := some z2)
  refine ⟨some (.fz (.int n)), some (.fz (.int m)), some (.fz (tI [a, b])), some (.fz (tI [c, d])), some (.fz (.list [tI [a, b], tI [c, d]])), some (.fz (.list [tI [a, b], tI [c, d]])), some (.fz (tI [e, f])), some (.fz (.int ((List.range m).foldl (m9g n) ((n : Int) + 1, 1)).1)), some (.fz (.int ((List.range m).foldl (m9g n) ((n : Int) + 1, 1)).2)), f12, ?_⟩
  unfold mBody
  rw [seq_nx a1, seq_nx a2, seq_nx a3, seq_nx a4, seq_nx a5, seq_nx a6, seq_nx a7, seq_nx a8, seq_nx a9, seq_nx a10]
  rfl
theorem mk_all (r1 r2 : Int) (h1 : 0 ≤ r1) (h2 : r1 < 3) (h3 : 0 ≤ r2) (h4 : r2 < 12) : ∃ (n m : Nat), 1 + r1 = n ∧ r2 = m ∧ ∃ a b c d e f, Mk n m a b c d e f := by
  have a : r1 = 0 ∨ r1 = 1 ∨ r1 = 2 := by omega
  have b : r2 = 0 ∨ r2 = 1 ∨ r2 = 2 ∨ r2 = 3 ∨ r2 = 4 ∨ r2 = 5 ∨ r2 = 6 ∨ r2 = 7 ∨ r2 = 8 ∨ r2 = 9 ∨ r2 = 10 ∨ r2 = 11 := by omega
  rcases a with rfl | rfl | rfl <;> rcases b with rfl | rfl | rfl | rfl | rfl | rfl | rfl | rfl | rfl | rfl | rfl | rfl
  · exact ⟨1, 0, rfl, rfl, mk1_0⟩
  · exact ⟨1, 1, rfl, rfl, mk1_1⟩
  · exact ⟨1, 2, rfl, rfl, mk1_2⟩
  · exact ⟨1, 3, rfl, rfl, mk1_3⟩
  · exact ⟨1, 4, rfl, rfl, mk1_4⟩
  · exact ⟨1, 5, rfl, rfl, mk1_5⟩
  · exact ⟨1, 6, rfl, rfl, mk1_6⟩
  · exact ⟨1, 7, rfl, rfl, mk1_7⟩
  · exact ⟨1, 8, rfl, rfl, mk1_8⟩
  · exact ⟨1, 9, rfl, rfl, mk1_9⟩
  · exact ⟨1, 10, rfl, rfl, mk1_10⟩
  · exact ⟨1, 11, rfl, rfl, mk1_11⟩
  · exact ⟨2, 0, rfl, rfl, mk2_0⟩
  · exact ⟨2, 1, rfl, rfl, mk2_1⟩
  · exact ⟨2, 2, rfl, rfl, mk2_2⟩
  · exact ⟨2, 3, rfl, rfl, mk2_3⟩
  · exact ⟨2, 4, rfl, rfl, mk2_4⟩
  · exact ⟨2, 5, rfl, rfl, mk2_5⟩
  · exact ⟨2, 6, rfl, rfl, mk2_6⟩
  · exact ⟨2, 7, rfl, rfl, mk2_7⟩
  · exact ⟨2, 8, rfl, rfl, mk2_8⟩
  · exact ⟨2, 9, rfl, rfl, mk2_9⟩
  · exact ⟨2, 10, rfl, rfl, mk2_10⟩
  · exact ⟨2, 11, rfl, rfl, mk2_11⟩
  · exact ⟨3, 0, rfl, rfl, mk3_0⟩
  · exact ⟨3, 1, rfl, rfl, mk3_1⟩
  · exact ⟨3, 2, rfl, rfl, mk3_2⟩
  · exact ⟨3, 3, rfl, rfl, mk3_3⟩
  · exact ⟨3, 4, rfl, rfl, mk3_4⟩
  · exact ⟨3, 5, rfl, rfl, mk3_5⟩
  · exact ⟨3, 6, rfl, rfl, mk3_6⟩
  · exact ⟨3, 7, rfl, rfl, mk3_7⟩
  · exact ⟨3, 8, rfl, rfl, mk3_8⟩
  · exact ⟨3, 9, rfl, rfl, mk3_9⟩
  · exact ⟨3, 10, rfl, rfl, mk3_10⟩
  · exact ⟨3, 11, rfl, rfl, mk3_11⟩
theorem mturns_ok : ∀ (l : List PyData) {e2 e3 e4 e5 e6 e7 e8 e9 e10 e11 e12 : Option Sl} {z : PotSt}, Good z → ∃ f2 f3 f4 f5 f6 f7 f8 f9 f10 f11 f12 z', Good z' ∧ dForL (gVar 2) mBody l ⟨[e0, some .pt, e2, e3, e4, e5, e6, e7, e8, e9, e10, e11, e12, e13, e14, e15, e16], some z⟩ = some (.nx, ⟨[e0, some .pt, f2, f3, f4, f5, f6, f7, f8, f9, f10, f11, f12, e13, e14, e15, e16], some z'⟩)
  | [], e2, e3, e4, e5, e6, e7, e8, e9, e10, e11, e12, z, hz => ⟨e2, e3, e4, e5, e6, e7, e8, e9, e10, e11, e12, z, hz, rfl⟩
  | x :: l, e2, e3, e4, e5, e6, e7, e8, e9, e10, e11, e12, z, hz => by
    obtain ⟨p1, p2, p3⟩ := drawA_range z 3
    have q1 := draw_ok 3 (by decide) z hz
    have hz1 := drawA_good z 3 hz
    generalize drawA z 3 = y1 at *
    obtain ⟨r1, z1⟩ := y1
    obtain ⟨o1, o2, o3⟩ := drawA_range z1 12
    have q2 := draw_ok 12 (by decide) z1 hz1
    have hz2 := drawA_good z1 12 hz1
    generalize drawA z1 12 = y2 at *
    obtain ⟨r2, z2⟩ := y2
    dsimp only at *
    obtain ⟨n, m, g1, g2, a, b, c, d, e, f, t⟩ := mk_all r1 r2 p1 (p2 (by decide)) o1 (o2 (by decide))
    obtain ⟨f3, f4, f5, f6, f7, f8, f9, f10, f11, f12, h⟩ := mturn_ok t (e0 := e0) (e2 := some (.fz x)) (e3 := e3) (e4 := e4) (e5 := e5) (e6 := e6) (e7 := e7) (e8 := e8) (e9 := e9) (e10 := e10) (e11 := e11) (e12 := e12) (e13 := e13) (e14 := e14) (e15 := e15) (e16 := e16) q1 q2 g1 g2
    obtain ⟨k2, k3, k4, k5, k6, k7, k8, k9, k10, k11, k12, z', hz', h'⟩ := mturns_ok l (e2 := some (.fz x)) (e3 := f3) (e4 := f4) (e5 := f5) (e6 := f6) (e7 := f7) (e8 := f8) (e9 := f9) (e10 := f10) (e11 := f11) (e12 := f12) hz2
    exact ⟨k2, k3, k4, k5, k6, k7, k8, k9, k10, k11, k12, z', hz', (forL_cons rfl h).trans h'⟩
theorem nturns_ok : ∀ (l : List PyData) {e2 e3 e13 e14 e15 : Option Sl} {z : PotSt}, Good z → ∃ s', dForL (gVar 2) nBody l ⟨[e0, some .pt, e2, e3, e4, e5, e6, e7, e8, e9, e10, e11, e12, e13, e14, e15, none], some z⟩ = some (.nx, s')
  | [], e2, e3, e13, e14, e15, z, hz => ⟨_, rfl⟩
  | x :: l, e2, e3, e13, e14, e15, z, hz => by
    obtain ⟨f3, f13, f14, f15, z', hz', h⟩ := nturn_ok (e0 := e0) (e2 := some (.fz x)) (e3 := e3) (e4 := e4) (e5 := e5) (e6 := e6) (e7 := e7) (e8 := e8) (e9 := e9) (e10 := e10) (e11 := e11) (e12 := e12) (e13 := e13) (e14 := e14) (e15 := e15) hz
    obtain ⟨s', h'⟩ := nturns_ok l (e2 := some (.fz x)) (e3 := f3) (e13 := f13) (e14 := f14) (e15 := f15) hz'
    exact ⟨s', (forL_cons rfl h).trans h'⟩
end
theorem plain : ∀ ns : List Int, ns.length ≤ 63 → ∃ s', f_law ⟨scEnv 17 ns, none⟩ = some (.rt (.fz (.bool true)), s') := fun ns hns => by
  obtain ⟨z, hd, hz⟩ := deck_ok ns hns
  have h0 : dAsg (dMk D__law_deck 0) (gVar 1) ⟨scEnv 17 ns, none⟩ = some (.nx, ⟨[some (.sc ns), some .pt, none, none, none, none, none, none, none, none, none, none, none, none, none, none, none], some z⟩) := by
    generalize D__law_deck = D at *
    simp [dAsg, dMk, scEnv, hd, unsl, gVar, slOf, S.put, List.replicate]
  obtain ⟨f2, f3, f4, f5, f6, f7, f8, f9, f10, f11, f12, z', hz', h1⟩ := mturns_ok (e0 := some (.sc ns)) (e13 := none) (e14 := none) (e15 := none) (e16 := none) ((List.range 2).map fun i : Nat => .int (i : Int)) (e2 := none) (e3 := none) (e4 := none) (e5 := none) (e6 := none) (e7 := none) (e8 := none) (e9 := none) (e10 := none) (e11 := none) (e12 := none) hz
  obtain ⟨s', h2⟩ := nturns_ok (e0 := some (.sc ns)) (e4 := f4) (e5 := f5) (e6 := f6) (e7 := f7) (e8 := f8) (e9 := f9) (e10 := f10) (e11 := f11) (e12 := f12) ((List.range 4).map fun i : Nat => .int (i : Int)) (e2 := f2) (e3 := f3) (e13 := none) (e14 := none) (e15 := none) hz'
  have r1 : ∀ s : S, dRg1 (dCons (dLit (.int 2)) dNil) s = some ((List.range 2).map (fun i : Nat => .int (i : Int)), s) := fun s => rg1_of (n := 2) rfl (by decide)
  have r2 : ∀ s : S, dRg1 (dCons (dLit (.int 4)) dNil) s = some ((List.range 4).map (fun i : Nat => .int (i : Int)), s) := fun s => rg1_of (n := 4) rfl (by decide)
  refine ⟨s', ?_⟩
  rw [law_split, seq_nx h0, seq_nx (for_of (r1 _) h1), seq_nx (for_of (r2 _) h2)]
  rfl
end Rg
namespace Rg
open PySem L2
end Rg
open PySem PySem.W PyProof.Rows in
set_option maxRecDepth 100000 in
set_option maxHeartbeats 0 in
theorem PySem.Challenge.cw_ringsandroads_k78_whole_main_means_behin_holds : PySem.Challenge.rw_ringsandroads_k78_whole_main_means_behin.Holds := by
  w_on; o_law; k_head; (case hw => w_witness2)
  k_fill
  refine Rg.walkL (l := PySem.Challenge.rw_ringsandroads_k78_whole_main_means_behin) rfl rfl (fun w h Y => PySem.W.kIn_of Y) ?F
  case F =>
    intro w mg fa h KX G hmg
    refine' Rg.all_mk KX G hmg ?a0 ?l0 ?c0 ?k0 ?a1 ?l1 ?c1 ?k1 ?a2 ?l2 ?c2 ?k2 ?a3 ?l3 ?c3 ?k3 ?a4 ?l4 ?c4 ?k4 ?a5 ?l5 ?c5 ?k5 ?a6 ?l6 ?c6 ?k6 ?a7 ?l7 ?c7 ?k7 ?a8 ?l8 ?c8 ?k8 ?a9 ?l9 ?c9 ?k9 ?a10 ?l10 ?c10 ?k10 ?a11 ?l11 ?c11 ?k11 ?a12 ?l12 ?c12 ?k12 ?a13 ?l13 ?c13 ?k13 ?a14 ?l14 ?c14 ?k14 ?a15 ?l15 ?c15 ?k15 ?a16 ?l16 ?c16 ?k16 ?a17 ?l17 ?c17 ?k17 ?a18 ?l18 ?c18 ?k18 ?z_abs ?z_dict ?z_int ?z_len ?z_list ?z_range ?z_repr ?z_sorted ?z_sum ?z_tuple ?z_zip Rg.plain
    (case a0 => k_is)
    (case l0 => k_is)
    (case c0 => k_is)
    (case k0 => k_is)
    (case a1 => k_is)
    (case l1 => k_is)
    (case c1 => k_is)
    (case k1 => k_is)
    (case a2 => k_is)
    (case l2 => k_is)
    (case c2 => k_is)
    (case k2 => k_is)
    (case a3 => k_is)
    (case l3 => k_is)
    (case c3 => k_is)
    (case k3 => k_is)
    (case a4 => k_is)
    (case l4 => k_is)
    (case c4 => k_is)
    (case k4 => k_is)
    (case a5 => k_is)
    (case l5 => k_is)
    (case c5 => k_is)
    (case k5 => k_is)
    (case a6 => k_is)
    (case l6 => k_is)
    (case c6 => k_is)
    (case k6 => k_is)
    (case a7 => k_is)
    (case l7 => k_is)
    (case c7 => k_is)
    (case k7 => k_is)
    (case a8 => k_is)
    (case l8 => k_is)
    (case c8 => k_is)
    (case k8 => k_is)
    (case a9 => k_is)
    (case l9 => k_is)
    (case c9 => k_is)
    (case k9 => k_is)
    (case a10 => k_is)
    (case l10 => k_is)
    (case c10 => k_is)
    (case k10 => k_is)
    (case a11 => k_is)
    (case l11 => k_is)
    (case c11 => k_is)
    (case k11 => k_is)
    (case a12 => k_is)
    (case l12 => k_is)
    (case c12 => k_is)
    (case k12 => k_is)
    (case a13 => k_is)
    (case l13 => k_is)
    (case c13 => k_is)
    (case k13 => k_is)
    (case a14 => k_is)
    (case l14 => k_is)
    (case c14 => k_is)
    (case k14 => k_is)
    (case a15 => k_is)
    (case l15 => k_is)
    (case c15 => k_is)
    (case k15 => k_is)
    (case a16 => k_is)
    (case l16 => k_is)
    (case c16 => k_is)
    (case k16 => k_is)
    (case a17 => k_is)
    (case l17 => k_is)
    (case c17 => k_is)
    (case k17 => k_is)
    (case a18 => k_is)
    (case l18 => k_is)
    (case c18 => k_is)
    (case k18 => k_is)
    (case z_abs => k_is)
    (case z_dict => k_is)
    (case z_int => k_is)
    (case z_len => k_is)
    (case z_list => k_is)
    (case z_range => k_is)
    (case z_repr => k_is)
    (case z_sorted => k_is)
    (case z_sum => k_is)
    (case z_tuple => k_is)
    (case z_zip => k_is)
