import PyProof.Rows.All
import Wide.All
import OpenK.AllK
import Wide.FinOn
import HandS.ForMost
import HandS.Lambda
import HandS.IsInst
import KE.KMinKey
import HandS.SortInts
import HandS.Style
import HandS.Deep
import HandS.EndTab
import PySem.Challenge.RW_piecesturned_k73_whole_bars_cut_with_lea
set_option Elab.async false
set_option linter.all false
section
set_option maxRecDepth 100000
set_option maxHeartbeats 2000000
/-! Tr1: the ground of the layer: results R, snapshots, typed descriptors, environments, the judgements. -/
namespace Tr
open PySem L2

/-- what a piece of the program gives: a value, an exception of a class, or nothing that we know of -/
inductive R (α : Type) where
  | ok (a : α) | err (c : Str) | bad
def R.bind {α β : Type} (m : R α) (k : α → R β) : R β := match m with
  | .ok a => k a
  | .err c => .err c
  | .bad => .bad
def R.map {α β : Type} (f : α → β) (m : R α) : R β := match m with
  | .ok a => .ok (f a)
  | .err c => .err c
  | .bad => .bad
theorem R.ok_bind {α β : Type} (a : α) (k : α → R β) : R.bind (.ok a) k = k a := rfl
theorem R.err_bind {α β : Type} (c : Str) (k : α → R β) : R.bind (.err c) k = .err c := rfl
theorem R.bad_bind {α β : Type} (k : α → R β) : R.bind .bad k = .bad := rfl
theorem R.bind_assoc {α β γ : Type} (m : R α) (k : α → R β) (l : β → R γ) : R.bind (R.bind m k) l = R.bind m fun a => R.bind (k a) l := by cases m <;> rfl
theorem R.bind_ok {α : Type} (m : R α) : R.bind m .ok = m := by cases m <;> rfl
theorem R.map_ok {α β : Type} (f : α → β) (a : α) : R.map f (.ok a) = .ok (f a) := rfl
theorem R.ite_bind {α β : Type} {c : Prop} [Decidable c] (a b : R α) (k : α → R β) : R.bind (if c then a else b) k = if c then R.bind a k else R.bind b k := by split <;> rfl
def guardR (c : Bool) : R Unit := if c = true then .ok () else .bad

/-- the tables of code objects of the defs that make lambdas, with the lambdas' names -/
class HasT where
  T : List (Addr × Str)
variable [hasT : HasT]
/-- the heap without the tables -/
def ntb (H : Hp) : Hp := fun a => match H a with
  | some (.tbl _) => none
  | o => o
theorem nt_some {H : Hp} {a : Addr} {o : HO} (h : ntb H a = some o) : H a = some o ∧ ∀ ps, o ≠ .tbl ps := by
  unfold ntb at h
  split at h
  · cases h
  · rename_i hne
    exact ⟨h, fun ps z => hne ps (z ▸ h)⟩
theorem nt_of {H : Hp} {a : Addr} {o : HO} (h : H a = some o) (n : ∀ ps, o ≠ .tbl ps) : ntb H a = some o := by
  unfold ntb
  rw [h]
  cases o <;> first | rfl | exact absurd rfl (n _)
/-- all but the tables stays -/
structure Sm (H H' : Hp) : Prop where
  k : ∀ a o, H a = some o → (∀ ps, o ≠ .tbl ps) → H' a = some o
theorem Sm.refl (H : Hp) : Sm H H := ⟨fun _ _ h _ => h⟩
theorem Sm.trans {H H1 H2 : Hp} (a : Sm H H1) (b : Sm H1 H2) : Sm H H2 := ⟨fun c o h n => b.k c o (a.k c o h n) n⟩
theorem sm_of {H H' : Hp} (e : Same H H') : Sm H H' := ⟨fun a o h _ => e a o h⟩
theorem ntn {H : Hp} {a : Addr} (h : H a = none) : ntb H a = none := by
  unfold ntb
  rw [h]
theorem Sm.freeN {H H' : Hp} (e : Sm H H') {l : Addr} (h : ntb H' l = none) : ntb H l = none := by
  cases q : ntb H l with
  | none => rfl
  | some o =>
    obtain ⟨h1, h2⟩ := nt_some q
    rw [nt_of (e.k l o h1 h2) h2] at h
    cases h
theorem Sm.free {H H' : Hp} (e : Sm H H') {l : Addr} (h : H' l = none) : ntb H l = none := e.freeN (ntn h)
theorem sne {H H' : Hp} (e : Sm H H') {a : Addr} (h : ntb H a ≠ none) : ntb H' a ≠ none := fun z => h (e.freeN z)
theorem Sm.l {H H' : Hp} (e : Sm H H') {a : Addr} {xs : List V} (h : H a = some (.lst xs)) : H' a = some (.lst xs) := e.k a _ h fun _ z => nomatch z
theorem nt_same (H : Hp) : Same (ntb H) H := fun a o h => (nt_some h).1
theorem Sm.nt {H H' : Hp} (e : Sm H H') : Same (ntb H) (ntb H') := fun a o h => by
  obtain ⟨h1, h2⟩ := nt_some h
  exact nt_of (e.k a o h1 h2) h2
/-- a snapshot has no tables -/
def NT (G : Hp) : Prop := ∀ a ps, G a ≠ some (.tbl ps)
theorem NT.of {G H : Hp} (n : NT G) (e : Same G H) : Same G (ntb H) := fun a o h => nt_of (e a o h) fun ps z => n a ps (z ▸ h)
theorem nt_NT (H : Hp) : NT (ntb H) := fun a ps h => (nt_some h).2 ps rfl
/-- the base of a run: the written part, the snapshot and the heap at the entry, what is wanted of an exception -/
structure Bs where
  K : PySem.W.Frag
  G0 : Hp
  B : Hp
  er : Str → Hp → Prop

/-- from (G, H) to (G', H') while an expression is evaluated: nothing changes, new things may come; what was not frozen stays unfrozen -/
structure Grow (G H G' H' : Hp) : Prop where
  g : Same G G'
  h : Sm H H'
  gh : Same G' H'
  n : ∀ a, ntb H a ≠ none → G a = none → G' a = none
  tb : LamX.Tabs hasT.T H → LamX.Tabs hasT.T H'
  nt : NT G → NT G'
theorem Grow.refl {G H : Hp} (h : Same G H) : Grow G H G H := ⟨Same.refl _, Sm.refl _, h, fun _ _ h => h, id, id⟩
theorem Grow.trans {G H G1 H1 G2 H2 : Hp} (a : Grow G H G1 H1) (b : Grow G1 H1 G2 H2) : Grow G H G2 H2 :=
  ⟨a.g.trans b.g, a.h.trans b.h, b.gh, fun c h1 h2 => b.n c (sne a.h h1) (a.n c h1 h2), fun t => b.tb (a.tb t), fun n => b.nt (a.nt n)⟩
theorem same_upd {H : Hp} {p : Addr} {o : HO} (h : H p = none) : Same H (upd H p o) := fun b x e => by
  rw [upd_ne (ne_of_none e h)]
  exact e
theorem sm_upd {H : Hp} {p : Addr} {o : HO} (h : H p = none) : Sm H (upd H p o) := sm_of (same_upd h)
/-- a new object, not frozen -/
theorem Grow.new {G H : Hp} {p : Addr} {o : HO} (gh : Same G H) (hp : H p = none) : Grow G H G (upd H p o) :=
  ⟨Same.refl _, sm_upd hp, gh.trans (same_upd hp), fun _ _ h => h, fun t => t.ext (same_upd hp), id⟩
/-- a new object is frozen -/
theorem Grow.freeze {G H G' H' : Hp} {p : Addr} {o : HO} (g : Grow G H G' H') (hp : ntb H p = none) (gp : G' p = none) (h : H' p = some o) (no : ∀ ps, o ≠ .tbl ps) : Grow G H (upd G' p o) H' := by
  refine ⟨g.g.trans (same_upd gp), g.h, fun b x e => ?_, fun a h1 h2 => ?_, g.tb, fun n a ps z => ?_⟩
  · by_cases hb : b = p
    · subst hb
      rw [upd_same] at e
      exact h.trans e
    · rw [upd_ne hb] at e
      exact g.gh b x e
  · have hb : a ≠ p := fun e => h1 (e ▸ hp)
    rw [upd_ne hb]
    exact g.n a h1 h2
  · by_cases hb : a = p
    · subst hb
      rw [upd_same] at z
      exact no ps (Option.some.inj z)
    · rw [upd_ne hb] at z
      exact g.nt n a ps z
/-- a new object, frozen at once -/
theorem Grow.newF {G H : Hp} {p : Addr} {o : HO} (gh : Same G H) (hp : H p = none) (no : ∀ ps, o ≠ .tbl ps := by exact fun _ z => nomatch z) : Grow G H (upd G p o) (upd H p o) :=
  (Grow.new gh hp).freeze (ntn hp) (gh.free hp) upd_same no

/-- how a value of a Lean type lies in a (frozen) heap -/
structure Ty (α : Type) where
  rel : Bs → Hp → V → α → Prop
  mono : ∀ {b : Bs} {G G' : Hp} {v : V} {x : α}, Same G G' → rel b G v x → rel b G' v x
  up : ∀ {b b' : Bs} {G : Hp} {v : V} {x : α}, b.K = b'.K → (∀ a, ntb b.B a = none → ntb b'.B a = none) → rel b G v x → rel b' G v x
/-- a descriptor that speaks of the written part and the heap alone -/
class Pu {α : Type} (t : Ty α) : Prop where
  pu : ∀ {b b' : Bs} {G : Hp} {v : V} {x : α}, b.K = b'.K → t.rel b G v x → t.rel b' G v x
/-- a descriptor of scalars: it speaks of no heap -/
class Sc {α : Type} (t : Ty α) : Prop where
  sc : ∀ {b b' : Bs} {G G' : Hp} {v : V} {x : α}, t.rel b G v x → t.rel b' G' v x

theorem pmap {α β : Type} {F F' : α → β → Prop} : ∀ {l : List α} {m : List β}, Paired F l m → (∀ a b, F a b → F' a b) → Paired F' l m
  | _, _, .nil, _ => .nil
  | _, _, .cons r t, f => .cons (f _ _ r) (pmap t f)
theorem pget {α β : Type} {F : α → β → Prop} : ∀ {l : List α} {m : List β}, Paired F l m → ∀ {i : Nat} {y : β}, m[i]? = some y → ∃ x, l[i]? = some x ∧ F x y
  | _, _, .nil, i, y, e => by simp at e
  | _, _, .cons r t, 0, y, e => by
    simp at e
    subst e
    exact ⟨_, rfl, r⟩
  | _, _, .cons r t, i + 1, y, e => by
    obtain ⟨x, h1, h2⟩ := pget t (i := i) (y := y) (by simpa using e)
    exact ⟨x, by simpa using h1, h2⟩
theorem plen {α β : Type} {F : α → β → Prop} : ∀ {l : List α} {m : List β}, Paired F l m → l.length = m.length
  | _, _, .nil => rfl
  | _, _, .cons _ t => by simp [plen t]
theorem papp {α β : Type} {F : α → β → Prop} : ∀ {l l' : List α} {m m' : List β}, Paired F l m → Paired F l' m' → Paired F (l ++ l') (m ++ m')
  | _, _, _, _, .nil, s => s
  | _, _, _, _, .cons r t, s => .cons r (papp t s)
theorem pset {α β : Type} {F : α → β → Prop} {x : α} {y : β} (r : F x y) : ∀ {l : List α} {m : List β} (i : Nat), Paired F l m → Paired F (l.set i x) (m.set i y)
  | _, _, _, .nil => .nil
  | _, _, 0, .cons _ t => .cons r t
  | _, _, i + 1, .cons q t => .cons q (pset r i t)
theorem ptake {α β : Type} {F : α → β → Prop} : ∀ {l : List α} {m : List β} (n : Nat), Paired F l m → Paired F (l.take n) (m.take n)
  | _, _, 0, _ => by simpa using Paired.nil
  | _, _, _ + 1, .nil => .nil
  | _, _, n + 1, .cons r t => .cons r (ptake n t)
theorem pdrop {α β : Type} {F : α → β → Prop} : ∀ {l : List α} {m : List β} (n : Nat), Paired F l m → Paired F (l.drop n) (m.drop n)
  | _, _, 0, h => by simpa using h
  | _, _, _ + 1, .nil => .nil
  | _, _, n + 1, .cons _ t => pdrop n t
theorem prev {α β : Type} {F : α → β → Prop} : ∀ {l : List α} {m : List β}, Paired F l m → Paired F l.reverse m.reverse
  | _, _, .nil => .nil
  | _, _, .cons r t => by
    rw [List.reverse_cons, List.reverse_cons]
    exact papp (prev t) (.cons r .nil)
theorem prep {α β : Type} {F : α → β → Prop} {x : α} {y : β} (r : F x y) : ∀ n, Paired F (List.replicate n x) (List.replicate n y)
  | 0 => .nil
  | n + 1 => .cons r (prep r n)

/-! ### descriptors -/
def tInt : Ty Int := ⟨fun _ _ v i => v = .int i, fun _ h => h, fun _ _ h => h⟩
def tBool : Ty Bool := ⟨fun _ _ v i => v = .bl i, fun _ h => h, fun _ _ h => h⟩
def tStr : Ty Str := ⟨fun _ _ v i => v = .str i, fun _ h => h, fun _ _ h => h⟩
def tNone : Ty Unit := ⟨fun _ _ v _ => v = .non, fun _ h => h, fun _ _ h => h⟩
variable {α β γ δ τ : Type}
def tList (t : Ty α) : Ty (List α) := ⟨fun b G v xs => ∃ a vs, v = .ref a ∧ G a = some (.lst vs) ∧ Paired (t.rel b G) vs xs,
  fun s ⟨a, vs, e, h, p⟩ => ⟨a, vs, e, s _ _ h, pmap p fun _ _ => t.mono s⟩, fun k n ⟨a, vs, e, h, p⟩ => ⟨a, vs, e, h, pmap p fun _ _ => t.up k n⟩⟩
/-- .. a list made in this run -/
def tListN (t : Ty α) : Ty (List α) := ⟨fun b G v xs => ∃ a vs, v = .ref a ∧ ntb b.B a = none ∧ G a = some (.lst vs) ∧ Paired (t.rel b G) vs xs,
  fun s ⟨a, vs, e, f, h, p⟩ => ⟨a, vs, e, f, s _ _ h, pmap p fun _ _ => t.mono s⟩, fun k n ⟨a, vs, e, f, h, p⟩ => ⟨a, vs, e, n _ f, h, pmap p fun _ _ => t.up k n⟩⟩
theorem seqT {K : PySem.W.Frag} {H H' : Hp} {a : Addr} {xs : List V} (e : Same H H') (h : SqT K H a xs) : SqT K H' a xs := by
  rcases h with (h | ⟨o, h⟩) | h
  · exact .inl (.inl (e _ _ h))
  · exact .inl (.inr ⟨o, e _ _ h⟩)
  · exact .inr h
/-- the script, a list that may be locked -/
def tSeq (t : Ty α) : Ty (List α) := ⟨fun b G v xs => ∃ a vs, v = .ref a ∧ SqL b.K G a vs ∧ Paired (t.rel b G) vs xs,
  fun s ⟨a, vs, e, h, p⟩ => ⟨a, vs, e, Same.seq s h, pmap p fun _ _ => t.mono s⟩, fun k n ⟨a, vs, e, h, p⟩ => ⟨a, vs, e, k ▸ h, pmap p fun _ _ => t.up k n⟩⟩
/-- a tuple of any length, its items of one sort -/
def tTupL (t : Ty α) : Ty (List α) := ⟨fun b G v xs => ∃ a vs, v = .ref a ∧ SqT b.K G a vs ∧ Paired (t.rel b G) vs xs,
  fun s ⟨a, vs, e, h, p⟩ => ⟨a, vs, e, seqT s h, pmap p fun _ _ => t.mono s⟩, fun k n ⟨a, vs, e, h, p⟩ => ⟨a, vs, e, k ▸ h, pmap p fun _ _ => t.up k n⟩⟩
/-- None, or .. -/
def tOpt (t : Ty α) : Ty (Option α) := ⟨fun b G v x => (v = .non ∧ x = none) ∨ (v ≠ .non ∧ ∃ y, x = some y ∧ t.rel b G v y),
  fun s h => h.imp id fun ⟨n, y, e, r⟩ => ⟨n, y, e, t.mono s r⟩, fun k n h => h.imp id fun ⟨ne, y, e, r⟩ => ⟨ne, y, e, t.up k n r⟩⟩
/-- one of two sorts -/
def tSum (t : Ty α) (u : Ty β) : Ty (α ⊕ β) := ⟨fun b G v x => match x with
    | .inl y => t.rel b G v y
    | .inr y => u.rel b G v y,
  fun {_ _ _ _ x} s h => match x, h with
    | .inl _, h => t.mono s h
    | .inr _, h => u.mono s h,
  fun {_ _ _ _ x} k n h => match x, h with
    | .inl _, h => t.up k n h
    | .inr _, h => u.up k n h⟩
/-- a row of values, each of its own sort -/
structure AT (τ : Type) where
  rel : Bs → Hp → List V → τ → Prop
  mono : ∀ {b : Bs} {G G' : Hp} {v : List V} {x : τ}, Same G G' → rel b G v x → rel b G' v x
  up : ∀ {b b' : Bs} {G : Hp} {v : List V} {x : τ}, b.K = b'.K → (∀ a, ntb b.B a = none → ntb b'.B a = none) → rel b G v x → rel b' G v x
def aNil : AT Unit := ⟨fun _ _ vs _ => vs = [], fun _ h => h, fun _ _ h => h⟩
def aCons (t : Ty α) (ts : AT τ) : AT (α × τ) := ⟨fun b G vs x => ∃ v r, vs = v :: r ∧ t.rel b G v x.1 ∧ ts.rel b G r x.2,
  fun s ⟨v, r, e, h1, h2⟩ => ⟨v, r, e, t.mono s h1, ts.mono s h2⟩, fun k n ⟨v, r, e, h1, h2⟩ => ⟨v, r, e, t.up k n h1, ts.up k n h2⟩⟩
/-- a tuple, each place of its own sort -/
def tT (ts : AT τ) : Ty τ := ⟨fun b G v x => ∃ a vs, v = .ref a ∧ SqT b.K G a vs ∧ ts.rel b G vs x,
  fun s ⟨a, vs, e, h, p⟩ => ⟨a, vs, e, seqT s h, ts.mono s p⟩, fun k n ⟨a, vs, e, h, p⟩ => ⟨a, vs, e, k ▸ h, ts.up k n p⟩⟩
class PuA {τ : Type} (t : AT τ) : Prop where
  pu : ∀ {b b' : Bs} {G : Hp} {v : List V} {x : τ}, b.K = b'.K → t.rel b G v x → t.rel b' G v x
instance : Pu tInt := ⟨fun _ h => h⟩
instance : Pu tBool := ⟨fun _ h => h⟩
instance : Pu tStr := ⟨fun _ h => h⟩
instance : Pu tNone := ⟨fun _ h => h⟩
instance : Sc tInt := ⟨fun h => h⟩
instance : Sc tBool := ⟨fun h => h⟩
instance : Sc tStr := ⟨fun h => h⟩
instance : Sc tNone := ⟨fun h => h⟩
instance (t : Ty α) [Pu t] : Pu (tList t) := ⟨fun k ⟨a, vs, e, h, p⟩ => ⟨a, vs, e, h, pmap p fun _ _ => Pu.pu k⟩⟩
instance (t : Ty α) [Pu t] : Pu (tSeq t) := ⟨fun k ⟨a, vs, e, h, p⟩ => ⟨a, vs, e, k ▸ h, pmap p fun _ _ => Pu.pu k⟩⟩
instance (t : Ty α) [Pu t] : Pu (tTupL t) := ⟨fun k ⟨a, vs, e, h, p⟩ => ⟨a, vs, e, k ▸ h, pmap p fun _ _ => Pu.pu k⟩⟩
instance (t : Ty α) [Pu t] : Pu (tOpt t) := ⟨fun k h => h.imp id fun ⟨n, y, e, r⟩ => ⟨n, y, e, Pu.pu k r⟩⟩
instance (t : Ty α) [Sc t] : Sc (tOpt t) := ⟨fun h => h.imp id fun ⟨n, y, e, r⟩ => ⟨n, y, e, Sc.sc r⟩⟩
instance (t : Ty α) (u : Ty β) [Pu t] [Pu u] : Pu (tSum t u) := ⟨fun {_ _ _ _ x} k h => match x, h with
  | .inl _, h => Pu.pu (t := t) k h
  | .inr _, h => Pu.pu (t := u) k h⟩
instance : PuA aNil := ⟨fun _ h => h⟩
instance (t : Ty α) (ts : AT τ) [Pu t] [PuA ts] : PuA (aCons t ts) := ⟨fun k ⟨v, r, e, h1, h2⟩ => ⟨v, r, e, Pu.pu k h1, PuA.pu k h2⟩⟩
instance (ts : AT τ) [PuA ts] : Pu (tT ts) := ⟨fun k ⟨a, vs, e, h, p⟩ => ⟨a, vs, e, k ▸ h, PuA.pu k p⟩⟩
/-- data of any form -/
def tD : Ty PyData := ⟨fun b G v d => Dp b.K G v d, by
  intro b G G' v x s h
  revert h
  exact Dp.rec (motive_1 := fun v d _ => Dp b.K G' v d) (motive_2 := fun vs ds _ => DpAll b.K G' vs ds) .non .bl .int .str (fun h _ ih => .lst (Same.seq s h) ih) (fun h _ ih => .tup (seqT s h) ih) .nil (fun _ _ h1 h2 => .cons h1 h2), fun {b b' G v x} k _ h => by
  rw [← k]
  exact h⟩
instance : Pu tD := ⟨fun {b b' G v x} k h => by
  have h : Dp b.K G v x := h
  rw [k] at h
  exact h⟩

/-! ### environments -/
/-- how an object of one's own, not a list, stands for a value -/
structure Ow (α : Type) where
  rel : Bs → Hp → HO → α → Prop
  mono : ∀ {b : Bs} {G G' : Hp} {o : HO} {x : α}, Same G G' → rel b G o x → rel b G' o x
  up : ∀ {b b' : Bs} {G : Hp} {o : HO} {x : α}, b.K = b'.K → (∀ a, ntb b.B a = none → ntb b'.B a = none) → rel b G o x → rel b' G o x
  nt : ∀ {b : Bs} {G : Hp} {o : HO} {x : α}, rel b G o x → ∀ ps, o ≠ .tbl ps
  nc : ∀ {b : Bs} {G : Hp} {o : HO} {x : α}, rel b G o x → ∀ c q, o ≠ LamX.CodeO c q
/-- a base whose snapshot lies in its heap -/
structure Tight (b : Bs) : Prop where
  s : Same b.G0 b.B
  n : NT b.G0
/-- ck: something frozen, while the base is tight -/
inductive SV : Type 1 where
  | sh {α : Type} (t : Ty α) (x : α)
  | ol {α : Type} (t : Ty α) (xs : List α)
  | ow {α : Type} (W : Ow α) (x : α)
  | ck {α : Type} (t : Ty α) (x : α)
def SV.own : SV → Bool
  | .sh _ _ => false
  | .ol _ _ => true
  | .ow _ _ => true
  | .ck _ _ => false
def SV.noCk : SV → Bool
  | .ck _ _ => false
  | _ => true
abbrev Env := List (Option SV)
def SvOk (b : Bs) (G H : Hp) (v : V) : SV → Prop
  | .sh t x => t.rel b G v x
  | .ol t xs => ∃ a vs, v = .ref a ∧ G a = none ∧ ntb b.B a = none ∧ H a = some (.lst vs) ∧ Paired (t.rel b G) vs xs
  | .ow W x => ∃ a o, v = .ref a ∧ G a = none ∧ ntb b.B a = none ∧ H a = some o ∧ W.rel b G o x
  | .ck t x => t.rel b G v x ∧ Tight b
structure EnvOk (b : Bs) (G H : Hp) (σ : St) (ρ : Env) : Prop where
  gh : Same G H
  bh : Sm b.B H
  g0 : Same b.G0 G
  nw : ∀ a, ntb b.B a ≠ none → b.G0 a = none → G a = none
  sl : ∀ (i : Nat) (s : SV), ρ[i]? = some (some s) → ∃ v, σ[i]? = some (some v) ∧ SvOk b G H v s
  ds : ∀ (i j : Nat) (s s' : SV) (v : V), i ≠ j → ρ[i]? = some (some s) → ρ[j]? = some (some s') → s.own = true → s'.own = true → σ[i]? = some (some v) → σ[j]? ≠ some (some v)
  ln : σ.length = ρ.length
  tb : LamX.Tabs hasT.T H
  nt : NT G
section
variable {b : Bs} {G H G' H' : Hp} {σ : St} {ρ : Env} {v : V} {s : SV} {i : Nat}
theorem SvOk.grow (g : Grow G H G' H') (h : SvOk b G H v s) : SvOk b G' H' v s := by
  cases s with
  | sh t x => exact t.mono g.g h
  | ol t xs =>
    obtain ⟨a, vs, e, h1, h2, h3, h4⟩ := h
    exact ⟨a, vs, e, g.n a (by rw [nt_of h3 fun _ z => nomatch z]; exact fun z => nomatch z) h1, h2, g.h.l h3, pmap h4 fun _ _ => t.mono g.g⟩
  | ow W x =>
    obtain ⟨a, o, e, h1, h2, h3, h4⟩ := h
    exact ⟨a, o, e, g.n a (by rw [nt_of h3 (W.nt h4)]; exact fun z => nomatch z) h1, h2, g.h.k a o h3 (W.nt h4), W.mono g.g h4⟩
  | ck t x => exact ⟨t.mono g.g h.1, h.2⟩
theorem EnvOk.grow (I : EnvOk b G H σ ρ) (g : Grow G H G' H') : EnvOk b G' H' σ ρ :=
  ⟨g.gh, I.bh.trans g.h, I.g0.trans g.g, fun a h1 h2 => g.n a (sne I.bh h1) (I.nw a h1 h2), fun i s e => by
    obtain ⟨v, h1, h2⟩ := I.sl i s e
    exact ⟨v, h1, h2.grow g⟩, I.ds, I.ln, g.tb I.tb, g.nt I.nt⟩
theorem EnvOk.set_sh {t : Ty α} {x : α} (I : EnvOk b G H σ ρ) (i : Nat) (h : t.rel b G v x) : EnvOk b G H (σ.set i (some v)) (ρ.set i (some (.sh t x))) := by
  refine ⟨I.gh, I.bh, I.g0, I.nw, fun j s e => ?_, fun j k s s' w hjk e1 e2 o1 o2 => ?_, by simp [I.ln], I.tb, I.nt⟩
  · by_cases hj : i = j
    · subst hj
      have hl : i < ρ.length := by
        have := (List.getElem?_eq_some_iff.mp e).1
        simpa using this
      rw [List.getElem?_set_self hl] at e
      cases e
      exact ⟨v, List.getElem?_set_self (by rw [I.ln]; exact hl), h⟩
    · rw [List.getElem?_set_ne hj] at e
      obtain ⟨w, h1, h2⟩ := I.sl j s e
      exact ⟨w, by rw [List.getElem?_set_ne hj]; exact h1, h2⟩
  · have nei : ∀ (j : Nat) (s : SV), (ρ.set i (some (.sh t x)))[j]? = some (some s) → s.own = true → i ≠ j := fun j s e o z => by
      subst z
      have hl : i < ρ.length := by
        have := (List.getElem?_eq_some_iff.mp e).1
        simpa using this
      rw [List.getElem?_set_self hl] at e
      cases e
      cases o
    have hj := nei j s e1 o1
    have hk := nei k s' e2 o2
    rw [List.getElem?_set_ne hj] at e1 ⊢
    rw [List.getElem?_set_ne hk] at e2 ⊢
    exact I.ds j k s s' w hjk e1 e2 o1 o2
/-- a list of one's own at a that no other slot has -/
theorem EnvOk.set_ol {t : Ty α} {xs : List α} {a : Addr} {vs : List V} (I : EnvOk b G H σ ρ) (i : Nat) (h1 : G a = none) (h2 : ntb b.B a = none) (h3 : H a = some (.lst vs)) (h4 : Paired (t.rel b G) vs xs)
    (hn : ∀ (j : Nat) (s : SV), i ≠ j → ρ[j]? = some (some s) → s.own = true → σ[j]? ≠ some (some (.ref a))) : EnvOk b G H (σ.set i (some (.ref a))) (ρ.set i (some (.ol t xs))) := by
  refine ⟨I.gh, I.bh, I.g0, I.nw, fun j s e => ?_, fun j k s s' w hjk e1 e2 o1 o2 ew => ?_, by simp [I.ln], I.tb, I.nt⟩
  · by_cases hj : i = j
    · subst hj
      have hl : i < ρ.length := by
        have := (List.getElem?_eq_some_iff.mp e).1
        simpa using this
      rw [List.getElem?_set_self hl] at e
      cases e
      exact ⟨.ref a, List.getElem?_set_self (by rw [I.ln]; exact hl), a, vs, rfl, h1, h2, h3, h4⟩
    · rw [List.getElem?_set_ne hj] at e
      obtain ⟨w, q1, q2⟩ := I.sl j s e
      exact ⟨w, by rw [List.getElem?_set_ne hj]; exact q1, q2⟩
  · by_cases hj : i = j
    · subst hj
      have hk : i ≠ k := hjk
      have hl : i < σ.length := by
        have := (List.getElem?_eq_some_iff.mp ew).1
        simpa using this
      rw [List.getElem?_set_self hl] at ew
      cases ew
      rw [List.getElem?_set_ne hk] at e2 ⊢
      exact hn k s' hk e2 o2
    · rw [List.getElem?_set_ne hj] at e1 ew
      by_cases hk : i = k
      · subst hk
        intro z
        have hl : i < σ.length := by
          have := (List.getElem?_eq_some_iff.mp z).1
          simpa using this
        rw [List.getElem?_set_self hl] at z
        cases z
        exact hn j s hj e1 o1 ew
      · rw [List.getElem?_set_ne hk] at e2 ⊢
        exact I.ds j k s s' w hjk e1 e2 o1 o2 ew
/-- a slot of one's own differs from a place where nothing stood -/
theorem EnvOk.own_ne (I : EnvOk b G H σ ρ) {a : Addr} (hp : ntb H a = none) (j : Nat) (s : SV) (e : ρ[j]? = some (some s)) (o : s.own = true) : σ[j]? ≠ some (some (.ref a)) := fun z => by
  obtain ⟨v, h1, h2⟩ := I.sl j s e
  rw [z] at h1
  cases h1
  cases s with
  | sh t x => cases o
  | ol t xs =>
    obtain ⟨a', vs, e', _, _, h3, _⟩ := h2
    cases e'
    rw [nt_of h3 fun _ z => nomatch z] at hp
    cases hp
  | ow W x =>
    obtain ⟨a', o', e', _, _, h3, h4⟩ := h2
    cases e'
    rw [nt_of h3 (W.nt h4)] at hp
    cases hp
  | ck t x => cases o
/-- weaker environments -/
inductive Wk : Env → Env → Prop where
  | nil : Wk [] []
  | keep {s : Option SV} {ρ ρ' : Env} : Wk ρ ρ' → Wk (s :: ρ) (s :: ρ')
  | drop {s : Option SV} {ρ ρ' : Env} : Wk ρ ρ' → Wk (s :: ρ) (none :: ρ')
  | unck {α : Type} {t : Ty α} {x : α} {ρ ρ' : Env} : Wk ρ ρ' → Wk (some (.ck t x) :: ρ) (some (.sh t x) :: ρ')
theorem Wk.len {ρ ρ' : Env} (w : Wk ρ ρ') : ρ.length = ρ'.length := by
  induction w with
  | nil => rfl
  | keep _ ih => simp [ih]
  | drop _ ih => simp [ih]
  | unck _ ih => simp [ih]
theorem Wk.get {ρ ρ' : Env} (w : Wk ρ ρ') : ∀ {i : Nat} {s : SV}, ρ'[i]? = some (some s) → ∃ s', ρ[i]? = some (some s') ∧ s'.own = s.own ∧ ∀ (b : Bs) (G H : Hp) (v : V), SvOk b G H v s' → SvOk b G H v s := by
  induction w with
  | nil => intro i s e; simp at e
  | @keep s0 _ _ _ ih =>
    intro i s e
    cases i with
    | zero => exact ⟨s, by simpa using e, rfl, fun _ _ _ _ h => h⟩
    | succ i => simpa using ih (by simpa using e)
  | drop _ ih =>
    intro i s e
    cases i with
    | zero => simp at e
    | succ i => simpa using ih (by simpa using e)
  | unck _ ih =>
    intro i s e
    cases i with
    | zero =>
      cases (show some (some (SV.sh _ _)) = some (some s) from e)
      exact ⟨_, rfl, rfl, fun _ _ _ _ h => h.1⟩
    | succ i => simpa using ih (by simpa using e)
theorem Wk.refl : ∀ ρ : Env, Wk ρ ρ
  | [] => .nil
  | _ :: r => .keep (Wk.refl r)
theorem EnvOk.wk {ρ' : Env} (I : EnvOk b G H σ ρ) (w : Wk ρ ρ') : EnvOk b G H σ ρ' :=
  ⟨I.gh, I.bh, I.g0, I.nw, fun i s e => by
    obtain ⟨s', q1, _, q3⟩ := w.get e
    obtain ⟨v, h1, h2⟩ := I.sl i s' q1
    exact ⟨v, h1, q3 _ _ _ _ h2⟩, fun i j s s' v hij e1 e2 o1 o2 => by
    obtain ⟨t, q1, q2, _⟩ := w.get e1
    obtain ⟨t', r1, r2, _⟩ := w.get e2
    exact I.ds i j t t' v hij q1 r1 (q2.trans o1) (r2.trans o2), by rw [I.ln, w.len], I.tb, I.nt⟩
/-- a list of one's own is frozen -/
theorem EnvOk.freeze {t : Ty α} {xs : List α} (I : EnvOk b G H σ ρ) (e : ρ[i]? = some (some (.ol t xs))) : ∃ G', EnvOk b G' H σ (ρ.set i (some (.sh (tListN t) xs))) := by
  obtain ⟨v, hv, a, vs, rfl, h1, h2, h3, h4⟩ := I.sl i _ e
  have sG : Same G (upd G a (.lst vs)) := same_upd h1
  have hi : i < ρ.length := (List.getElem?_eq_some_iff.mp e).1
  have nei : ∀ (j : Nat) (s : SV), (ρ.set i (some (.sh (tListN t) xs)))[j]? = some (some s) → s.own = true → i ≠ j := fun j s e o z => by
    subst z
    rw [List.getElem?_set_self hi] at e
    cases e
    cases o
  refine ⟨upd G a (.lst vs), fun c o q => ?_, I.bh, I.g0.trans sG, fun c q1 q2 => ?_, fun j s q => ?_, fun j k s s' w hjk e1 e2 o1 o2 => ?_, by simp [I.ln], I.tb, fun c ps z => ?_⟩
  · by_cases hc : c = a
    · subst hc
      rw [upd_same] at q
      exact h3.trans q
    · rw [upd_ne hc] at q
      exact I.gh c o q
  · have hc : c ≠ a := fun z => q1 (z ▸ h2)
    rw [upd_ne hc]
    exact I.nw c q1 q2
  · by_cases hj : i = j
    · subst hj
      rw [List.getElem?_set_self hi] at q
      cases q
      exact ⟨_, hv, a, vs, rfl, h2, upd_same, pmap h4 fun _ _ => t.mono sG⟩
    · rw [List.getElem?_set_ne hj] at q
      obtain ⟨w, w1, w2⟩ := I.sl j s q
      refine ⟨w, w1, ?_⟩
      cases s with
      | sh u x => exact u.mono sG w2
      | ol u ys =>
        obtain ⟨c, ws, rfl, z1, z2, z3, z4⟩ := w2
        have hc : c ≠ a := fun z => I.ds i j _ _ _ hj e q rfl rfl hv (by rw [w1, z])
        exact ⟨c, ws, rfl, by rw [upd_ne hc]; exact z1, z2, z3, pmap z4 fun _ _ => u.mono sG⟩
      | ow W x =>
        obtain ⟨c, o, rfl, z1, z2, z3, z4⟩ := w2
        have hc : c ≠ a := fun z => I.ds i j _ _ _ hj e q rfl rfl hv (by rw [w1, z])
        exact ⟨c, o, rfl, by rw [upd_ne hc]; exact z1, z2, z3, W.mono sG z4⟩
      | ck u x => exact ⟨u.mono sG w2.1, w2.2⟩
  · have hj := nei j s e1 o1
    have hk := nei k s' e2 o2
    rw [List.getElem?_set_ne hj] at e1
    rw [List.getElem?_set_ne hk] at e2
    exact I.ds j k s s' w hjk e1 e2 o1 o2
  · by_cases hc : c = a
    · subst hc
      rw [upd_same] at z
      cases z
    · rw [upd_ne hc] at z
      exact I.nt c ps z
end

/-! ### kinds of results of expressions -/
/-- b, the heap ahead of the expression, the snapshot and the heap behind it, the value, what it stands for -/
structure Kd (α : Type) where
  rel : Bs → Hp → Hp → Hp → V → α → Prop
  mono : ∀ {b : Bs} {H0 G H G' H' : Hp} {v : V} {x : α}, Grow G H G' H' → rel b H0 G H v x → rel b H0 G' H' v x
  back : ∀ {b : Bs} {H0 H1 G H : Hp} {v : V} {x : α}, Sm H0 H1 → rel b H1 G H v x → rel b H0 G H v x
  up : ∀ {b b' : Bs} {H0 G H : Hp} {v : V} {x : α}, b.K = b'.K → (∀ a, ntb b.B a = none → ntb b'.B a = none) → rel b H0 G H v x → rel b' H0 G H v x
/-- frozen -/
def kE (t : Ty α) : Kd α := ⟨fun b _ G _ v x => t.rel b G v x, fun g h => t.mono g.g h, fun _ h => h, t.up⟩
/-- a list that may be read; its items are frozen -/
def kL (t : Ty α) : Kd (List α) := ⟨fun b _ G H v xs => ∃ a vs, v = .ref a ∧ H a = some (.lst vs) ∧ Paired (t.rel b G) vs xs,
  fun g ⟨a, vs, e, h, p⟩ => ⟨a, vs, e, g.h.l h, pmap p fun _ _ => t.mono g.g⟩, fun _ h => h, fun k n ⟨a, vs, e, h, p⟩ => ⟨a, vs, e, h, pmap p fun _ _ => t.up k n⟩⟩
/-- a list that was made here; its items are frozen -/
def kF (t : Ty α) : Kd (List α) := ⟨fun b H0 G H v xs => ∃ a vs, v = .ref a ∧ ntb H0 a = none ∧ G a = none ∧ H a = some (.lst vs) ∧ Paired (t.rel b G) vs xs,
  fun g ⟨a, vs, e, h0, h1, h, p⟩ => ⟨a, vs, e, h0, g.n a (by rw [nt_of h fun _ z => nomatch z]; exact fun z => nomatch z) h1, g.h.l h, pmap p fun _ _ => t.mono g.g⟩, fun s ⟨a, vs, e, h0, h⟩ => ⟨a, vs, e, s.freeN h0, h⟩,
  fun k n ⟨a, vs, e, h0, h1, h, p⟩ => ⟨a, vs, e, h0, h1, h, pmap p fun _ _ => t.up k n⟩⟩
/-- something to be looked at only, as the heap stands: frozen or not -/
def kP (t : Ty α) : Kd α := ⟨fun b _ _ H v x => t.rel b (ntb H) v x, fun g h => t.mono g.h.nt h, fun _ h => h, t.up⟩

/-- where an operation is done: H0 the heap ahead of the whole expression -/
structure At (b : Bs) (H0 G H : Hp) : Prop where
  gh : Same G H
  hh : Sm H0 H
  bh : Sm b.B H0
  nt : NT G
theorem At.b {b : Bs} {H0 G H : Hp} (a : At b H0 G H) {p : Addr} (h : H p = none) : ntb b.B p = none := a.bh.freeN (a.hh.free h)
/-- what is wanted behind -/
def EndO (b : Bs) (o : Kd α) (m : R α) (H0 G H : Hp) (Q : VK) : Prop := match m with
  | .ok x => ∀ v G' H', Grow G H G' H' → o.rel b H0 G' H' v x → Q v H'
  | .err c => ∀ H', Sm H H' → b.er c H'
  | .bad => False
def EndT (b : Bs) (m : R Bool) (G H : Hp) (Q : Bool → Hp → Prop) : Prop := match m with
  | .ok x => ∀ G' H', Grow G H G' H' → Q x H'
  | .err c => ∀ H', Sm H H' → b.er c H'
  | .bad => False
def EndA (b : Bs) (ts : AT τ) (m : R τ) (G H : Hp) (Q : List V → Hp → Prop) : Prop := match m with
  | .ok x => ∀ vs G' H', Grow G H G' H' → ts.rel b G' vs x → Q vs H'
  | .err c => ∀ H', Sm H H' → b.er c H'
  | .bad => False
def tO (b : Bs) (ρ : Env) (o : Kd α) (m : R α) : TE := fun σ H Q => ∃ G, EnvOk b G H σ ρ ∧ EndO b o m H G H Q
def tTs (b : Bs) (ρ : Env) (m : R Bool) : TT := fun σ H Q => ∃ G, EnvOk b G H σ ρ ∧ EndT b m G H Q
def tAs (b : Bs) (ρ : Env) (ts : AT τ) (m : R τ) : TA := fun σ H Q => ∃ G, EnvOk b G H σ ρ ∧ EndA b ts m G H Q
/-- a base fits a context -/
structure BOk (X : Cx) (b : Bs) : Prop where
  K : b.K = X.K
/-- THE JUDGEMENTS -/
def XO (X : Cx) (ρ : Env) (e : Expr) (o : Kd α) (m : R α) : Prop := ∀ b : Bs, BOk X b → PE X e (tO b ρ o m)
abbrev XE (X : Cx) (ρ : Env) (e : Expr) (t : Ty α) (m : R α) : Prop := XO X ρ e (kE t) m
def XT (X : Cx) (ρ : Env) (e : Expr) (m : R Bool) : Prop := ∀ b : Bs, BOk X b → PT X e (tTs b ρ m)
def XA (X : Cx) (ρ : Env) (es : List Expr) (ts : AT τ) (m : R τ) : Prop := ∀ b : Bs, BOk X b → PA X es (tAs b ρ ts m)

theorem pe_imp {X : Cx} {e : Expr} {t t' : TE} (h : PE X e t) (k : ∀ σ H Q, t' σ H Q → t σ H Q) : PE X e t' := ⟨fun pins s σ H Q I w => h.run pins s σ H Q I (k _ _ _ w)⟩
theorem pt_imp {X : Cx} {e : Expr} {t t' : TT} (h : PT X e t) (k : ∀ σ H Q, t' σ H Q → t σ H Q) : PT X e t' := ⟨fun pins s σ H Q I w => h.run pins s σ H Q I (k _ _ _ w)⟩
theorem pa_imp {X : Cx} {e : List Expr} {t t' : TA} (h : PA X e t) (k : ∀ σ H Q, t' σ H Q → t σ H Q) : PA X e t' := ⟨fun ps pins s σ H Q I w => h.run ps pins s σ H Q I (k _ _ _ w)⟩
theorem ps_imp {X : Cx} {e : Stmt} {t t' : TS} (h : PS X e t) (k : ∀ D σ H, t' D σ H → t D σ H) : PS X e t' := ⟨fun pins s σ H D I w => h.run pins s σ H D I (k _ _ _ w)⟩
theorem pss_imp {X : Cx} {e : List Stmt} {t t' : TS} (h : PSs X e t) (k : ∀ D σ H, t' D σ H → t D σ H) : PSs X e t' := ⟨fun pins s σ H D I w => h.run pins s σ H D I (k _ _ _ w)⟩
/-- a family of readings -/
theorem pss_ex {X : Cx} {e : List Stmt} {ι : Sort _} {T : ι → TS} (h : ∀ i, PSs X e (T i)) : PSs X e (fun D σ H => ∃ i, T i D σ H) := ⟨fun pins s σ H D I ⟨i, w⟩ => (h i).run pins s σ H D I w⟩
theorem pe_ex {X : Cx} {e : Expr} {ι : Sort _} {T : ι → TE} (h : ∀ i, PE X e (T i)) : PE X e (fun σ H Q => ∃ i, T i σ H Q) := ⟨fun pins s σ H Q I ⟨i, w⟩ => (h i).run pins s σ H Q I w⟩
theorem EndO.err_bind {b : Bs} {o : Kd β} {m : R α} {k : α → R β} {H0 G H : Hp} {Q : VK} (h : EndO b o (m.bind k) H0 G H Q) : (∃ x, m = .ok x ∧ EndO b o (k x) H0 G H Q) ∨ (∃ c, m = .err c ∧ ∀ H', Sm H H' → b.er c H') := by
  cases m with
  | ok x => exact .inl ⟨x, rfl, h⟩
  | err c => exact .inr ⟨c, rfl, h⟩
  | bad => exact h.elim
/-- from a part of an expression to the rest -/
theorem EndO.bind {b : Bs} {o : Kd α} {m : R α} {G H : Hp} {Q Q' : VK} {β : Type} {k : α → R β} {W : R β → Hp → Hp → Prop}
    (h : W (m.bind k) G H) (hok : ∀ x, W (k x) G H → m = .ok x → EndO b o (.ok x) H G H Q) (herr : ∀ c, W (.err c) G H → ∀ H', Sm H H' → b.er c H') (hbad : W .bad G H → False) : EndO b o m H G H Q := by
  cases m with
  | ok x => exact hok x h rfl
  | err c => exact herr c h
  | bad => exact (hbad h).elim
/-! ### changing an object -/
theorem Sm.mut {H H' : Hp} {a : Addr} {o : HO} (e : Sm H H') (h : ntb H a = none) : Sm H (upd H' a o) := ⟨fun c u q n => by
  have hc : c ≠ a := fun z => by
    rw [← z, nt_of q n] at h
    cases h
  rw [upd_ne hc]
  exact e.k c u q n⟩
theorem Same.mut {H H' : Hp} {a : Addr} {o : HO} (e : Same H H') (h : H a = none) : Same H (upd H' a o) := fun c u q => by
  rw [upd_ne (ne_of_none q h)]
  exact e c u q
theorem tabs_upd {T : List (Addr × Str)} {H : Hp} {a : Addr} {o o' : HO} (t : LamX.Tabs T H) (h : H a = some o) (no : ∀ ps, o ≠ .tbl ps) (nx : ∀ c q, o ≠ LamX.CodeO c q) : LamX.Tabs T (upd H a o') := fun p hp => by
  obtain ⟨ps, h1, h2, h3⟩ := t p hp
  refine ⟨ps, ?_, h2, fun pos cv hc => ?_⟩
  · rw [upd_ne (ne_of h1 h fun z => no ps z.symm)]
    exact h1
  · obtain ⟨c, e1, e2⟩ := h3 pos cv hc
    refine ⟨c, e1, ?_⟩
    rw [upd_ne (ne_of e2 h fun z => nx c p.2 z.symm)]
    exact e2
theorem tabs_updL {T : List (Addr × Str)} {H : Hp} {a : Addr} {xs : List V} {o' : HO} (t : LamX.Tabs T H) (h : H a = some (.lst xs)) : LamX.Tabs T (upd H a o') := tabs_upd t h (fun _ z => nomatch z) fun _ _ z => nomatch z
end Tr
end
section
set_option maxRecDepth 100000
set_option maxHeartbeats 2000000
/-! Tr2: how parts of an expression follow one another; names, constants, operators, comparisons, tests, displays, subscripts. -/
namespace Tr
open PySem L2
variable [hasT : HasT] {α β γ δ τ : Type}

/-- an outer wish -/
structure Out (b : Bs) (β : Type) where
  W : R β → Hp → Hp → Prop
  shift : ∀ {m : R β} {G H G' H' : Hp}, Grow G H G' H' → W m G H → W m G' H'
  err : ∀ {c : Str} {G H : Hp}, W (.err c) G H → ∀ H', Sm H H' → b.er c H'
  bad : ∀ {G H : Hp}, W .bad G H → False
def outO (b : Bs) (o : Kd β) (H0 : Hp) (Q : VK) : Out b β where
  W m G H := EndO b o m H0 G H Q
  shift {m} _ _ _ _ g h := match m, h with
    | .ok _, h => fun v G' H' g' r => h v G' H' (g.trans g') r
    | .err _, h => fun H' s => h H' (g.h.trans s)
  err h := h
  bad h := h
def outT (b : Bs) (Q : Bool → Hp → Prop) : Out b Bool where
  W m G H := EndT b m G H Q
  shift {m} _ _ _ _ g h := match m, h with
    | .ok _, h => fun G' H' g' => h G' H' (g.trans g')
    | .err _, h => fun H' s => h H' (g.h.trans s)
  err h := h
  bad h := h
def outA (b : Bs) (ts : AT τ) (Q : List V → Hp → Prop) : Out b τ where
  W m G H := EndA b ts m G H Q
  shift {m} _ _ _ _ g h := match m, h with
    | .ok _, h => fun v G' H' g' r => h v G' H' (g.trans g') r
    | .err _, h => fun H' s => h H' (g.h.trans s)
  err h := h
  bad h := h
section
variable {b : Bs} {G H G0 H0 : Hp} {k : α → R β}
theorem seqO {oa : Kd α} {ma : R α} {Q1 : VK} (O : Out b β) (h : O.W (ma.bind k) G H) (hk : ∀ x vx G1 H1, Grow G H G1 H1 → oa.rel b H G1 H1 vx x → O.W (k x) G1 H1 → Q1 vx H1) : EndO b oa ma H G H Q1 := by
  cases ma with
  | ok x => exact fun v G' H' g r => hk x v G' H' g r (O.shift g h)
  | err c => exact O.err h
  | bad => exact (O.bad h).elim
theorem seqB {k : Bool → R β} {ma : R Bool} {Q1 : Bool → Hp → Prop} (O : Out b β) (h : O.W (ma.bind k) G H) (hk : ∀ x G1 H1, Grow G H G1 H1 → O.W (k x) G1 H1 → Q1 x H1) : EndT b ma G H Q1 := by
  cases ma with
  | ok x => exact fun G' H' g => hk x G' H' g (O.shift g h)
  | err c => exact O.err h
  | bad => exact (O.bad h).elim
theorem seqA {k : τ → R β} {ts : AT τ} {ma : R τ} {Q1 : List V → Hp → Prop} (O : Out b β) (h : O.W (ma.bind k) G H) (hk : ∀ x vx G1 H1, Grow G H G1 H1 → ts.rel b G1 vx x → O.W (k x) G1 H1 → Q1 vx H1) : EndA b ts ma G H Q1 := by
  cases ma with
  | ok x => exact fun v G' H' g r => hk x v G' H' g r (O.shift g h)
  | err c => exact O.err h
  | bad => exact (O.bad h).elim
/-- at the end: the value is there -/
theorem EndO.give {o : Kd α} {x : α} {v : V} {Q : VK} (h : EndO b o (.ok x) H0 G H Q) (gh : Same G H) (r : o.rel b H0 G H v x) : Q v H := h v G H (Grow.refl gh) r
/-- .. a new object -/
theorem EndO.giveN {o : Kd α} {x : α} {p : Addr} {ob : HO} {Q : VK} (h : EndO b o (.ok x) H0 G H Q) (gh : Same G H) (hp : H p = none) (r : o.rel b H0 G (upd H p ob) (.ref p) x) : Q (.ref p) (upd H p ob) :=
  h (.ref p) G (upd H p ob) (Grow.new gh hp) r
/-- .. a new object, frozen -/
theorem EndO.giveF {o : Kd α} {x : α} {p : Addr} {ob : HO} {Q : VK} (h : EndO b o (.ok x) H0 G H Q) (gh : Same G H) (hp : H p = none) (r : o.rel b H0 (upd G p ob) (upd H p ob) (.ref p) x) (no : ∀ ps, ob ≠ .tbl ps := by exact fun _ z => nomatch z) : Q (.ref p) (upd H p ob) :=
  h (.ref p) (upd G p ob) (upd H p ob) (Grow.newF gh hp no) r
theorem EndT.give {x : Bool} {Q : Bool → Hp → Prop} (h : EndT b (.ok x) G H Q) (gh : Same G H) : Q x H := h G H (Grow.refl gh)
theorem EndO.guard {o : Kd α} {m : R α} {c : Bool} {Q : VK} (h : EndO b o ((guardR c).bind fun _ => m) H0 G H Q) : c = true ∧ EndO b o m H0 G H Q := by
  cases c with
  | true => exact ⟨rfl, h⟩
  | false => exact h.elim
end

section
variable {X : Cx} {ρ : Env} {e a b' : Expr} {pos : Pos} {i : Nat} {nm : Str} {ma : R α} {mb : R β}

/-! ### names -/
theorem xe_var {t : Ty α} {x : α} (h : ρ[i]? = some (some (.sh t x))) (hN : X.N[i]? = some nm) (hv : Vis X.env.scope nm) (hd : (nm == ("__debug__" : Str)) = false := by decide) (hcd : (nm == ("__classdict__" : Str)) = false := by decide) :
    XO X ρ (.Name nm pos) (kE t) (.ok x) := fun b hb => pe_imp (pe_var hN hv hd hcd) fun σ H Q ⟨G, I, h1⟩ => by
  obtain ⟨v, hv, r⟩ := I.sl i _ h
  exact ⟨v, hv, h1.give I.gh r⟩
theorem xl_var {t : Ty α} {xs : List α} (h : ρ[i]? = some (some (.ol t xs))) (hN : X.N[i]? = some nm) (hv : Vis X.env.scope nm) (hd : (nm == ("__debug__" : Str)) = false := by decide) (hcd : (nm == ("__classdict__" : Str)) = false := by decide) :
    XO X ρ (.Name nm pos) (kL t) (.ok xs) := fun b hb => pe_imp (pe_var hN hv hd hcd) fun σ H Q ⟨G, I, h1⟩ => by
  obtain ⟨v, hv, a, vs, rfl, r1, r2, r3, r4⟩ := I.sl i _ h
  exact ⟨_, hv, h1.give I.gh ⟨a, vs, rfl, r3, r4⟩⟩
/-- looked at -/
theorem xp_var {t : Ty α} {xs : List α} (h : ρ[i]? = some (some (.ol t xs))) (hN : X.N[i]? = some nm) (hv : Vis X.env.scope nm) (hd : (nm == ("__debug__" : Str)) = false := by decide) (hcd : (nm == ("__classdict__" : Str)) = false := by decide) :
    XO X ρ (.Name nm pos) (kP (tListN t)) (.ok xs) := fun b hb => pe_imp (pe_var hN hv hd hcd) fun σ H Q ⟨G, I, h1⟩ => by
  obtain ⟨v, hv, a, vs, rfl, r1, r2, r3, r4⟩ := I.sl i _ h
  exact ⟨_, hv, h1.give I.gh ⟨a, vs, rfl, r2, nt_of r3 (fun _ z => nomatch z), pmap r4 fun _ _ => t.mono (I.nt.of I.gh)⟩⟩
/-! ### one kind as another -/
structure Cv (o : Kd α) (o' : Kd β) (f : α → β) : Prop where
  cv : ∀ {b : Bs} {H0 G H : Hp} {v : V} {x : α}, Same G H → NT G → o.rel b H0 G H v x → o'.rel b H0 G H v (f x)
theorem xo_cv {o : Kd α} {o' : Kd β} {f : α → β} (c : Cv o o' f) (h : XO X ρ e o ma) : XO X ρ e o' (ma.bind fun x => .ok (f x)) := fun b hb => pe_imp (h b hb) fun σ H Q ⟨G, I, w⟩ =>
  ⟨G, I, seqO (outO b o' H Q) w fun x v G1 H1 g r w1 => w1.give g.gh (c.cv g.gh (g.nt I.nt) r)⟩
theorem xo_ci {o o' : Kd α} (c : Cv o o' id) (h : XO X ρ e o ma) : XO X ρ e o' ma := fun b hb => pe_imp (h b hb) fun σ H Q ⟨G, I, w⟩ => by
  rw [← R.bind_ok ma] at w
  exact ⟨G, I, seqO (outO b o' H Q) w fun x v G1 H1 g r w1 => w1.give g.gh (c.cv g.gh (g.nt I.nt) r)⟩
/-- where the conversion may fail -/
structure Cp (o : Kd α) (o' : Kd β) (f : α → Option β) : Prop where
  cv : ∀ {b : Bs} {H0 G H : Hp} {v : V} {x : α} {y : β}, Same G H → NT G → f x = some y → o.rel b H0 G H v x → o'.rel b H0 G H v y
def optR (x : Option α) : R α := match x with
  | some y => .ok y
  | none => .bad
theorem xo_cp {o : Kd α} {o' : Kd β} {f : α → Option β} (c : Cp o o' f) (h : XO X ρ e o ma) : XO X ρ e o' (ma.bind fun x => optR (f x)) := fun b hb => pe_imp (h b hb) fun σ H Q ⟨G, I, w⟩ =>
  ⟨G, I, seqO (outO b o' H Q) w fun x v G1 H1 g r w1 => by
    cases q : f x with
    | none =>
      rw [q] at w1
      exact w1.elim
    | some y =>
      rw [q] at w1
      exact EndO.give w1 g.gh (c.cv g.gh (g.nt I.nt) q r)⟩
/-- a new list is frozen -/
theorem xe_F {t : Ty α} {m : R (List α)} (h : XO X ρ e (kF t) m) : XO X ρ e (kE (tListN t)) m := fun b hb => pe_imp (h b hb) fun σ H Q ⟨G, I, w⟩ => by
  refine ⟨G, I, ?_⟩
  cases m with
  | ok x =>
    intro v G1 H1 g r
    obtain ⟨p, vs, rfl, h0, h1, h2, h3⟩ := r
    exact w (.ref p) _ H1 (g.freeze h0 h1 h2 fun _ z => nomatch z) ⟨p, vs, rfl, I.bh.freeN h0, upd_same, pmap h3 fun _ _ => t.mono (same_upd h1)⟩
  | err c => exact w
  | bad => exact w
theorem cv_F_L {t : Ty α} : Cv (kF t) (kL t) id := ⟨fun s _ ⟨a, vs, e, _, _, h, p⟩ => ⟨a, vs, e, h, p⟩⟩
theorem cv_E_L {t : Ty α} : Cv (kE (tList t)) (kL t) id := ⟨fun s _ ⟨a, vs, e, h, p⟩ => ⟨a, vs, e, s _ _ h, p⟩⟩
theorem cv_N_L {t : Ty α} : Cv (kE (tListN t)) (kL t) id := ⟨fun s _ ⟨a, vs, e, _, h, p⟩ => ⟨a, vs, e, s _ _ h, p⟩⟩
theorem cv_E_P {t : Ty α} : Cv (kE t) (kP t) id := ⟨fun s n h => t.mono (n.of s) h⟩
/-- a descriptor weaker than another -/
structure Sub (t t' : Ty α) : Prop where
  s : ∀ {b : Bs} {G : Hp} {v : V} {x : α}, t.rel b G v x → t'.rel b G v x
structure SubA (t t' : AT τ) : Prop where
  s : ∀ {b : Bs} {G : Hp} {v : List V} {x : τ}, t.rel b G v x → t'.rel b G v x
theorem Sub.rfl {t : Ty α} : Sub t t := ⟨id⟩
theorem sub_N {t t' : Ty α} (h : Sub t t') : Sub (tListN t) (tList t') := ⟨fun ⟨a, vs, e, _, q, p⟩ => ⟨a, vs, e, q, pmap p fun _ _ => h.s⟩⟩
theorem sub_L {t t' : Ty α} (h : Sub t t') : Sub (tList t) (tList t') := ⟨fun ⟨a, vs, e, q, p⟩ => ⟨a, vs, e, q, pmap p fun _ _ => h.s⟩⟩
theorem sub_NN {t t' : Ty α} (h : Sub t t') : Sub (tListN t) (tListN t') := ⟨fun ⟨a, vs, e, n, q, p⟩ => ⟨a, vs, e, n, q, pmap p fun _ _ => h.s⟩⟩
theorem sub_TL {t t' : Ty α} (h : Sub t t') : Sub (tTupL t) (tTupL t') := ⟨fun ⟨a, vs, e, q, p⟩ => ⟨a, vs, e, q, pmap p fun _ _ => h.s⟩⟩
theorem sub_O {t t' : Ty α} (h : Sub t t') : Sub (tOpt t) (tOpt t') := ⟨fun q => q.imp id fun ⟨n, y, e, r⟩ => ⟨n, y, e, h.s r⟩⟩
theorem sub_S {t t' : Ty α} {u u' : Ty β} (h : Sub t t') (k : Sub u u') : Sub (tSum t u) (tSum t' u') := ⟨fun {_ _ _ x} q => match x, q with
  | .inl _, q => h.s q
  | .inr _, q => k.s q⟩
theorem sub_T {t t' : AT τ} (h : SubA t t') : Sub (tT t) (tT t') := ⟨fun ⟨a, vs, e, q, p⟩ => ⟨a, vs, e, q, h.s p⟩⟩
theorem suba_nil : SubA aNil aNil := ⟨id⟩
theorem suba_cons {t t' : Ty α} {u u' : AT τ} (h : Sub t t') (k : SubA u u') : SubA (aCons t u) (aCons t' u') := ⟨fun ⟨v, r, e, h1, h2⟩ => ⟨v, r, e, h.s h1, k.s h2⟩⟩
theorem cv_E {t t' : Ty α} (h : Sub t t') : Cv (kE t) (kE t') id := ⟨fun _ _ r => h.s r⟩
theorem cv_F {t t' : Ty α} (h : Sub t t') : Cv (kF t) (kF t') id := ⟨fun _ _ ⟨a, vs, e, h0, h1, h2, p⟩ => ⟨a, vs, e, h0, h1, h2, pmap p fun _ _ => h.s⟩⟩
theorem cv_L {t t' : Ty α} (h : Sub t t') : Cv (kL t) (kL t') id := ⟨fun _ _ ⟨a, vs, e, h0, p⟩ => ⟨a, vs, e, h0, pmap p fun _ _ => h.s⟩⟩
/-- never None -/
class Nn (t : Ty α) : Prop where
  nn : ∀ {b : Bs} {G : Hp} {v : V} {x : α}, t.rel b G v x → v ≠ .non
instance : Nn tInt := ⟨fun h z => by
  rw [z] at h
  exact nomatch h⟩
instance : Nn tBool := ⟨fun h z => by
  rw [z] at h
  exact nomatch h⟩
instance : Nn tStr := ⟨fun h z => by
  rw [z] at h
  exact nomatch h⟩
instance (t : Ty α) : Nn (tList t) := ⟨fun ⟨_, _, e, _⟩ z => by
  rw [e] at z
  exact nomatch z⟩
instance (t : Ty α) : Nn (tListN t) := ⟨fun ⟨_, _, e, _⟩ z => by
  rw [e] at z
  exact nomatch z⟩
instance (t : Ty α) : Nn (tTupL t) := ⟨fun ⟨_, _, e, _⟩ z => by
  rw [e] at z
  exact nomatch z⟩
instance (t : AT τ) : Nn (tT t) := ⟨fun ⟨_, _, e, _⟩ z => by
  rw [e] at z
  exact nomatch z⟩
theorem cv_some {t : Ty α} [Nn t] : Cv (kE t) (kE (tOpt t)) some := ⟨fun _ _ h => .inr ⟨Nn.nn h, _, rfl, h⟩⟩
theorem cv_none {t : Ty α} : Cv (kE tNone) (kE (tOpt t)) fun _ => (none : Option α) := ⟨fun _ _ h => .inl ⟨h, rfl⟩⟩
theorem cp_get {t : Ty α} : Cp (kE (tOpt t)) (kE t) id := ⟨fun {b H0 G H v x y} _ _ e h => by
  rcases h with ⟨_, h⟩ | ⟨_, z, h, r⟩
  · rw [h] at e
    exact nomatch e
  · rw [h] at e
    cases e
    exact r⟩
theorem cv_inl {t : Ty α} {u : Ty β} : Cv (kE t) (kE (tSum t u)) Sum.inl := ⟨fun _ _ h => h⟩
theorem cv_inr {t : Ty α} {u : Ty β} : Cv (kE u) (kE (tSum t u)) Sum.inr := ⟨fun _ _ h => h⟩
theorem cp_inl {t : Ty α} {u : Ty β} : Cp (kE (tSum t u)) (kE t) (fun x => match x with | .inl y => some y | .inr _ => none) := ⟨fun {b H0 G H v x y} _ _ e h => by
  cases x with
  | inl z =>
    cases e
    exact h
  | inr z => exact nomatch e⟩
theorem cp_inr {t : Ty α} {u : Ty β} : Cp (kE (tSum t u)) (kE u) (fun x => match x with | .inr y => some y | .inl _ => none) := ⟨fun {b H0 G H v x y} _ _ e h => by
  cases x with
  | inr z =>
    cases e
    exact h
  | inl z => exact nomatch e⟩

/-! ### constants -/
theorem xe_int {i j} : XO X ρ (.Constant (.int i) j pos) (kE tInt) (.ok i) := fun b hb => pe_imp pe_int fun σ H Q ⟨G, I, w⟩ => w.give I.gh rfl
theorem xe_bl {c j} : XO X ρ (.Constant (.bool c) j pos) (kE tBool) (.ok c) := fun b hb => pe_imp pe_bl fun σ H Q ⟨G, I, w⟩ => w.give I.gh rfl
theorem xe_non {j} : XO X ρ (.Constant .none j pos) (kE tNone) (.ok ()) := fun b hb => pe_imp pe_non fun σ H Q ⟨G, I, w⟩ => w.give I.gh rfl
theorem xe_noneO {j} {t : Ty α} : XO X ρ (.Constant .none j pos) (kE (tOpt t)) (.ok none) := fun b hb => pe_imp pe_non fun σ H Q ⟨G, I, w⟩ => w.give I.gh (.inl ⟨rfl, rfl⟩)
theorem xe_str {x j} : XO X ρ (.Constant (.str x) j pos) (kE tStr) (.ok x) := fun b hb => pe_imp pe_str fun σ H Q ⟨G, I, w⟩ => w.give I.gh rfl
/-- a constant of the module -/
theorem xe_gint {n : Int} {u : Tok} (hg : Gl X nm) (hm : X.mg nm = some (.int n u)) (hd : (nm == ("__debug__" : Str)) = false := by decide) : XO X ρ (.Name nm pos) (kE tInt) (.ok n) := fun b hb => pe_imp (pe_glob (v := .int n) hg hm ⟨_, rfl⟩ hd) fun σ H Q ⟨G, I, w⟩ => w.give I.gh rfl
theorem xe_gstr {n : Str} {u : Tok} (hg : Gl X nm) (hm : X.mg nm = some (.str n u)) (hd : (nm == ("__debug__" : Str)) = false := by decide) : XO X ρ (.Name nm pos) (kE tStr) (.ok n) := fun b hb => pe_imp (pe_glob (v := .str n) hg hm ⟨_, rfl⟩ hd) fun σ H Q ⟨G, I, w⟩ => w.give I.gh rfl

/-! ### two operands -/
/-- what an operation on two values asks of its rule -/
def Op2 (X : Cx) (r : R2) (oa : Kd α) (ob : Kd β) (oc : Kd γ) (f : α → β → R γ) : Prop :=
  ∀ (b : Bs) (H0 G H : Hp) (vx vy : V) (x : α) (y : β) (Q : VK), b.K = X.K → At b H0 G H → oa.rel b H0 G H vx x → ob.rel b H0 G H vy y → EndO b oc (f x y) H0 G H Q → r vx vy H Q
theorem seq2 {oa : Kd α} {ob : Kd β} {oc : Kd γ} {f : α → β → R γ} {r : R2} {b : Bs} (hb : b.K = X.K) (hr : Op2 X r oa ob oc f) {σ : St} {H G : Hp} {Q : VK} (I : EnvOk b G H σ ρ) (w : EndO b oc (ma.bind fun x => mb.bind fun y => f x y) H G H Q) :
    tOp r (tO b ρ oa ma) (tO b ρ ob mb) σ H Q :=
  ⟨G, I, seqO (outO b oc H Q) w fun x vx G1 H1 g1 r1 w1 => ⟨G1, I.grow g1, seqO (outO b oc H Q) w1 fun y vy G2 H2 g2 r2 w2 =>
    hr b H G2 H2 vx vy x y Q hb ⟨g2.gh, g1.h.trans g2.h, I.bh, g2.nt (g1.nt I.nt)⟩ (oa.mono g2 r1) (ob.back g1.h r2) w2⟩⟩
theorem xo_op2 {oa : Kd α} {ob : Kd β} {oc : Kd γ} {f : α → β → R γ} {op : Operator} {r : R2} (ho : OpR X (binaryOp op) r) (hr : Op2 X r oa ob oc f) (ha : XO X ρ a oa ma) (hb : XO X ρ b' ob mb) :
    XO X ρ (.BinOp a op b' pos) oc (ma.bind fun x => mb.bind fun y => f x y) := fun b hk => pe_imp (pe_op ho (ha b hk) (hb b hk)) fun σ H Q ⟨G, I, w⟩ => seq2 hk.K hr I w
theorem xo_cmp {oa : Kd α} {ob : Kd β} {f : α → β → R Bool} {op : CmpOp} {r : R2} (ho : OpR X (compareOp op) r) (hr : Op2 X r oa ob (kE tBool) f) (hm : behindInMarks op b' = false) (ha : XO X ρ a oa ma) (hb : XO X ρ b' ob mb) :
    XO X ρ (.Compare a [op] [b'] pos) (kE tBool) (ma.bind fun x => mb.bind fun y => f x y) := fun b hk => pe_imp (pe_cmpR ho (ha b hk) (hb b hk) hm) fun σ H Q ⟨G, I, w⟩ => seq2 hk.K hr I w
theorem EndT.asO {b : Bs} {m : R Bool} {H0 G H : Hp} {Q : Bool → Hp → Prop} (w : EndT b m G H Q) : EndO b (kE tBool) m H0 G H fun x H' => ∃ k, x = .bl k ∧ Q k H' := by
  cases m with
  | ok x => exact fun v G' H' g r => ⟨x, r, w G' H' g⟩
  | err c => exact w
  | bad => exact w
theorem xt_cmp {oa : Kd α} {ob : Kd β} {f : α → β → R Bool} {op : CmpOp} {r : R2} (ho : OpR X (compareOp op) r) (hr : Op2 X r oa ob (kE tBool) f) (hm : behindInMarks op b' = false) (ha : XO X ρ a oa ma) (hb : XO X ρ b' ob mb) :
    XT X ρ (.Compare a [op] [b'] pos) (ma.bind fun x => mb.bind fun y => f x y) := fun b hk => pt_imp (pt_cmpR ho (ha b hk) (hb b hk) hm) fun σ H Q ⟨G, I, w⟩ => seq2 hk.K hr I w.asO
/-- an expression that gives True or False, as a test -/
theorem xt_val {m : R Bool} (h : XO X ρ e (kE tBool) m) (he : ∀ whole, isTrue e X.env whole = (do let v ← whole; standAt e.pos; holding [v] (truthy v)) := by intro _; rfl) : XT X ρ e m :=
  fun b hk => pt_imp (pt_val (h b hk) he) fun σ H Q ⟨G, I, w⟩ => ⟨G, I, w.asO⟩
end
end Tr
end
section
set_option maxRecDepth 100000
set_option maxHeartbeats 2000000
/-! Tr3: the operations. -/
namespace Tr
open PySem L2
variable [hasT : HasT] {α β γ δ τ : Type}
section
variable {X : Cx} {ρ : Env} {e a b' : Expr} {pos : Pos} {i : Nat} {nm : Str} {ma : R α} {mb : R β} {mi mj : R Int}

/-! ### whole numbers -/
theorem o2_int {f : Int → Int → V} {t : Ty γ} {g : Int → Int → γ} (h : ∀ b G i j, t.rel b G (f i j) (g i j)) : Op2 X (rI0 f) (kE tInt) (kE tInt) (kE t) fun x y => .ok (g x y) :=
  fun b H0 G H vx vy x y Q hb A r1 r2 w => ⟨x, y, r1, r2, w.give A.gh (h b G x y)⟩
theorem o2_intC {C : Int → Int → Prop} {f : Int → Int → V} {t : Ty γ} {c : Int → Int → Bool} {g : Int → Int → γ} (hc : ∀ i j, c i j = true → C i j) (h : ∀ b G i j, t.rel b G (f i j) (g i j)) :
    Op2 X (rI C f) (kE tInt) (kE tInt) (kE t) fun x y => (guardR (c x y)).bind fun _ => .ok (g x y) :=
  fun b H0 G H vx vy x y Q hb A r1 r2 w => by
    obtain ⟨c1, w⟩ := w.guard
    exact ⟨x, y, r1, r2, hc _ _ c1, w.give A.gh (h b G x y)⟩
def mulOk (i j : Int) : Bool := (decide (-(2 ^ 64) < i) && decide (i < 2 ^ 64)) || (decide (-(2 ^ 64) < j) && decide (j < 2 ^ 64))
def mulR (i j : Int) : R Int := (guardR (mulOk i j)).bind fun _ => .ok (i * j)
def fdivOk (j : Int) : Bool := decide (j ≠ 0) && decide (j.natAbs < 2 ^ 64)
def fdivR (i j : Int) : R Int := (guardR (fdivOk j)).bind fun _ => .ok (i.fdiv j)
def modR (i j : Int) : R Int := (guardR (decide (j ≠ 0))).bind fun _ => .ok (i.fmod j)
def powOk (i j : Int) : Bool := decide (0 ≤ j) && decide (j ≤ 1000000) && decide (i.natAbs < 2 ^ 64)
def powR (i j : Int) : R Int := (guardR (powOk i j)).bind fun _ => .ok (i ^ j.toNat)
theorem xe_add (ha : XO X ρ a (kE tInt) mi) (hb : XO X ρ b' (kE tInt) mj) : XO X ρ (.BinOp a .Add b' pos) (kE tInt) (mi.bind fun x => mj.bind fun y => .ok (x + y)) := xo_op2 op_add (o2_int fun _ _ _ _ => rfl) ha hb
theorem xe_sub (ha : XO X ρ a (kE tInt) mi) (hb : XO X ρ b' (kE tInt) mj) : XO X ρ (.BinOp a .Sub b' pos) (kE tInt) (mi.bind fun x => mj.bind fun y => .ok (x - y)) := xo_op2 op_sub (o2_int fun _ _ _ _ => rfl) ha hb
theorem xe_mul (ha : XO X ρ a (kE tInt) mi) (hb : XO X ρ b' (kE tInt) mj) : XO X ρ (.BinOp a .Mult b' pos) (kE tInt) (mi.bind fun x => mj.bind fun y => mulR x y) := xo_op2 op_mul (o2_intC (fun i j h => by
  simp only [mulOk, Bool.or_eq_true, Bool.and_eq_true, decide_eq_true_eq] at h
  exact h) fun _ _ _ _ => rfl) ha hb
theorem op_fdivW : OpR X (binaryOp .FloorDiv) (rI (fun _ j => j ≠ 0 ∧ j.natAbs < 2 ^ 64) fun i j => .int (i.fdiv j)) := opI fun _ j _ _ _ _ _ hc q => PyProof.Rows.floordiv_int hc.1 q (.inl (PyProof.noPylong_of_log2 (by
  have h3 : j.natAbs ≠ 0 := Int.natAbs_ne_zero.mpr hc.1
  have h4 := (Nat.log2_lt h3).mpr hc.2
  omega)))
theorem xe_fdiv (ha : XO X ρ a (kE tInt) mi) (hb : XO X ρ b' (kE tInt) mj) : XO X ρ (.BinOp a .FloorDiv b' pos) (kE tInt) (mi.bind fun x => mj.bind fun y => fdivR x y) := xo_op2 op_fdivW (o2_intC (c := fun _ j => fdivOk j) (fun i j h => by
  simp only [fdivOk, Bool.and_eq_true, decide_eq_true_eq] at h
  exact h) fun _ _ _ _ => rfl) ha hb
theorem xe_mod (ha : XO X ρ a (kE tInt) mi) (hb : XO X ρ b' (kE tInt) mj) : XO X ρ (.BinOp a .Mod b' pos) (kE tInt) (mi.bind fun x => mj.bind fun y => modR x y) := xo_op2 op_modN (o2_intC (c := fun _ j => decide (j ≠ 0)) (fun i j h => of_decide_eq_true h) fun _ _ _ _ => rfl) ha hb
theorem xe_pow (ha : XO X ρ a (kE tInt) mi) (hb : XO X ρ b' (kE tInt) mj) : XO X ρ (.BinOp a .Pow b' pos) (kE tInt) (mi.bind fun x => mj.bind fun y => powR x y) := xo_op2 op_pow (o2_intC (c := powOk) (fun i j h => by
  simp only [powOk, Bool.and_eq_true, decide_eq_true_eq] at h
  exact ⟨h.1.1, h.1.2, h.2⟩) fun _ _ _ _ => rfl) ha hb
theorem xe_neg (ha : XO X ρ a (kE tInt) mi) : XO X ρ (.UnaryOp .USub a pos) (kE tInt) (mi.bind fun x => .ok (-x)) := fun b hk => pe_imp (pe_un un_neg (ha b hk)) fun σ H Q ⟨G, I, w⟩ =>
  ⟨G, I, seqO (outO b (kE tInt) H Q) w fun x vx G1 H1 g1 r1 w1 => ⟨x, r1, EndO.give w1 g1.gh rfl⟩⟩
/-! comparisons: as a value (xe_), as a test (xt_) -/
theorem xe_lt (ha : XO X ρ a (kE tInt) mi) (hb : XO X ρ b' (kE tInt) mj) : XO X ρ (.Compare a [.Lt] [b'] pos) (kE tBool) (mi.bind fun x => mj.bind fun y => .ok (decide (x < y))) := xo_cmp op_lt (o2_int fun _ _ _ _ => rfl) (nomark _) ha hb
theorem xe_le (ha : XO X ρ a (kE tInt) mi) (hb : XO X ρ b' (kE tInt) mj) : XO X ρ (.Compare a [.LtE] [b'] pos) (kE tBool) (mi.bind fun x => mj.bind fun y => .ok (decide (x ≤ y))) := xo_cmp op_le (o2_int fun _ _ _ _ => rfl) (nomark _) ha hb
theorem xe_gt (ha : XO X ρ a (kE tInt) mi) (hb : XO X ρ b' (kE tInt) mj) : XO X ρ (.Compare a [.Gt] [b'] pos) (kE tBool) (mi.bind fun x => mj.bind fun y => .ok (decide (y < x))) := xo_cmp op_gt (o2_int fun _ _ _ _ => rfl) (nomark _) ha hb
theorem xe_ge (ha : XO X ρ a (kE tInt) mi) (hb : XO X ρ b' (kE tInt) mj) : XO X ρ (.Compare a [.GtE] [b'] pos) (kE tBool) (mi.bind fun x => mj.bind fun y => .ok (decide (y ≤ x))) := xo_cmp op_ge (o2_int fun _ _ _ _ => rfl) (nomark _) ha hb
theorem xt_lt (ha : XO X ρ a (kE tInt) mi) (hb : XO X ρ b' (kE tInt) mj) : XT X ρ (.Compare a [.Lt] [b'] pos) (mi.bind fun x => mj.bind fun y => .ok (decide (x < y))) := xt_cmp op_lt (o2_int fun _ _ _ _ => rfl) (nomark _) ha hb
theorem xt_le (ha : XO X ρ a (kE tInt) mi) (hb : XO X ρ b' (kE tInt) mj) : XT X ρ (.Compare a [.LtE] [b'] pos) (mi.bind fun x => mj.bind fun y => .ok (decide (x ≤ y))) := xt_cmp op_le (o2_int fun _ _ _ _ => rfl) (nomark _) ha hb
theorem xt_gt (ha : XO X ρ a (kE tInt) mi) (hb : XO X ρ b' (kE tInt) mj) : XT X ρ (.Compare a [.Gt] [b'] pos) (mi.bind fun x => mj.bind fun y => .ok (decide (y < x))) := xt_cmp op_gt (o2_int fun _ _ _ _ => rfl) (nomark _) ha hb
theorem xt_ge (ha : XO X ρ a (kE tInt) mi) (hb : XO X ρ b' (kE tInt) mj) : XT X ρ (.Compare a [.GtE] [b'] pos) (mi.bind fun x => mj.bind fun y => .ok (decide (y ≤ x))) := xt_cmp op_ge (o2_int fun _ _ _ _ => rfl) (nomark _) ha hb
/-- == of scalars: how values compare -/
class Eqs (t : Ty α) (u : Ty β) (f : outParam (α → β → Bool)) : Prop where
  eq : ∀ {b : Bs} {G G' : Hp} {v w : V} {x : α} {y : β}, t.rel b G v x → u.rel b G' w y → scal v w = true ∧ decide (v = w) = f x y
instance : Eqs tInt tInt (fun x y => decide (x = y)) := ⟨fun {b G G' v w x y} h1 h2 => by
  cases h1
  cases h2
  exact ⟨rfl, by rw [dec_int, Bool.beq_eq_decide_eq]⟩⟩
instance : Eqs tStr tStr (fun x y => x == y) := ⟨fun {b G G' v w x y} h1 h2 => by
  cases h1
  cases h2
  exact ⟨rfl, by rw [dec_str]⟩⟩
instance : Eqs tBool tBool (fun x y => decide (x = y)) := ⟨fun {b G G' v w x y} h1 h2 => by
  cases h1
  cases h2
  exact ⟨rfl, by rw [dec_bl, Bool.beq_eq_decide_eq]⟩⟩
theorem o2_eq {t : Ty α} {u : Ty β} {f : α → β → Bool} [q : Eqs t u f] : Op2 X rEq (kE t) (kE u) (kE tBool) fun x y => .ok (f x y) := fun b H0 G H vx vy x y Q hb A r1 r2 w => by
  obtain ⟨s, d⟩ := q.eq r1 r2
  exact ⟨s, by
    rw [d]
    exact w.give A.gh rfl⟩
theorem o2_ne {t : Ty α} {u : Ty β} {f : α → β → Bool} [q : Eqs t u f] : Op2 X rNe (kE t) (kE u) (kE tBool) fun x y => .ok (!f x y) := fun b H0 G H vx vy x y Q hb A r1 r2 w => by
  obtain ⟨s, d⟩ := q.eq r1 r2
  exact ⟨s, by
    rw [d]
    exact w.give A.gh rfl⟩
section
variable {t : Ty α} {u : Ty β} {f : α → β → Bool} [q : Eqs t u f]
theorem xe_eq (ha : XO X ρ a (kE t) ma) (hb : XO X ρ b' (kE u) mb) : XO X ρ (.Compare a [.Eq] [b'] pos) (kE tBool) (ma.bind fun x => mb.bind fun y => .ok (f x y)) := xo_cmp op_eq o2_eq (nomark _) ha hb
theorem xe_ne (ha : XO X ρ a (kE t) ma) (hb : XO X ρ b' (kE u) mb) : XO X ρ (.Compare a [.NotEq] [b'] pos) (kE tBool) (ma.bind fun x => mb.bind fun y => .ok (!f x y)) := xo_cmp op_ne o2_ne (nomark _) ha hb
theorem xt_eq (ha : XO X ρ a (kE t) ma) (hb : XO X ρ b' (kE u) mb) : XT X ρ (.Compare a [.Eq] [b'] pos) (ma.bind fun x => mb.bind fun y => .ok (f x y)) := xt_cmp op_eq o2_eq (nomark _) ha hb
theorem xt_ne (ha : XO X ρ a (kE t) ma) (hb : XO X ρ b' (kE u) mb) : XT X ρ (.Compare a [.NotEq] [b'] pos) (ma.bind fun x => mb.bind fun y => .ok (!f x y)) := xt_cmp op_ne o2_ne (nomark _) ha hb
end
/-- is None -/
theorem isn_opt {t : Ty α} {b : Bs} {G : Hp} {v : V} {x : Option α} (h : (tOpt t).rel b G v x) : decide (v = .non) = x.isNone := by
  rcases h with ⟨h1, h2⟩ | ⟨h1, y, h2, _⟩
  · rw [h1, h2] <;> rfl
  · rw [h2]
    exact decide_eq_false h1
theorem o2_isN {t : Ty α} : Op2 X (fun x y H Q => y = .non ∧ Q (.bl (decide (x = .non))) H) (kE (tOpt t)) (kE tNone) (kE tBool) fun x _ => .ok x.isNone := fun b H0 G H vx vy x y Q hb A r1 r2 w =>
  ⟨r2, by
    rw [isn_opt r1]
    exact w.give A.gh rfl⟩
theorem o2_notN {t : Ty α} : Op2 X (fun x y H Q => y = .non ∧ Q (.bl (!decide (x = .non))) H) (kE (tOpt t)) (kE tNone) (kE tBool) fun x _ => .ok x.isSome := fun b H0 G H vx vy x y Q hb A r1 r2 w =>
  ⟨r2, by
    rw [isn_opt r1]
    have e : (!x.isNone) = x.isSome := by cases x <;> rfl
    rw [e]
    exact w.give A.gh rfl⟩
section
variable {t : Ty α} {m : R (Option α)} {j : Nat} {p : Pos}
theorem xe_isN (ha : XO X ρ a (kE (tOpt t)) m) : XO X ρ (.Compare a [.Is] [.Constant .none j p] pos) (kE tBool) (m.bind fun x => .ok x.isNone) := xo_cmp op_isN o2_isN (nomark _) ha xe_non
theorem xe_notN (ha : XO X ρ a (kE (tOpt t)) m) : XO X ρ (.Compare a [.IsNot] [.Constant .none j p] pos) (kE tBool) (m.bind fun x => .ok x.isSome) := xo_cmp op_notN o2_notN (nomark _) ha xe_non
theorem xt_isN (ha : XO X ρ a (kE (tOpt t)) m) : XT X ρ (.Compare a [.Is] [.Constant .none j p] pos) (m.bind fun x => .ok x.isNone) := xt_cmp op_isN o2_isN (nomark _) ha xe_non
theorem xt_notN (ha : XO X ρ a (kE (tOpt t)) m) : XT X ρ (.Compare a [.IsNot] [.Constant .none j p] pos) (m.bind fun x => .ok x.isSome) := xt_cmp op_notN o2_notN (nomark _) ha xe_non
end
/-! ### and, or, not -/
section
variable {m n : R Bool} {rest : List Expr} {tA tB' : TT}
def andR (m n : R Bool) : R Bool := m.bind fun x => if x = true then n else .ok false
def orR (m n : R Bool) : R Bool := m.bind fun x => if x = true then .ok true else n
def notR (m : R Bool) : R Bool := m.bind fun x => .ok (!x)
def XW (X : Cx) (ρ : Env) (e : Expr) (m : R Bool) : Prop := ∀ b : Bs, BOk X b → PW X e (tTs b ρ m)
theorem pw_imp {e : Expr} {t t' : TT} (h : PW X e t) (k : ∀ σ H Q, t' σ H Q → t σ H Q) : PW X e t' := ⟨fun wh pins s σ H Q I w => h.run wh pins s σ H Q I (k _ _ _ w)⟩
theorem xw_pt (h : XW X ρ e m) : XT X ρ e m := fun b hk => (h b hk).pt
theorem xw_and1 (h : XT X ρ a m) : XW X ρ (.BoolOp .And [a] pos) m := fun b hk => pw_and1 (h b hk)
theorem xw_or1 (h : XT X ρ a m) : XW X ρ (.BoolOp .Or [a] pos) m := fun b hk => pw_or1 (h b hk)
theorem xw_and (h : XT X ρ a m) (h2 : XW X ρ (.BoolOp .And (b' :: rest) pos) n) : XW X ρ (.BoolOp .And (a :: b' :: rest) pos) (andR m n) := fun b hk => pw_imp (pw_and (h b hk) (h2 b hk)) fun σ H Q ⟨G, I, w⟩ =>
  ⟨G, I, seqB (outT b Q) w fun x G1 H1 g1 w1 => by
    cases x with
    | true => exact ⟨G1, I.grow g1, w1⟩
    | false => exact EndT.give (b := b) w1 g1.gh⟩
theorem xw_or (h : XT X ρ a m) (h2 : XW X ρ (.BoolOp .Or (b' :: rest) pos) n) : XW X ρ (.BoolOp .Or (a :: b' :: rest) pos) (orR m n) := fun b hk => pw_imp (pw_or (h b hk) (h2 b hk)) fun σ H Q ⟨G, I, w⟩ =>
  ⟨G, I, seqB (outT b Q) w fun x G1 H1 g1 w1 => by
    cases x with
    | true => exact EndT.give (b := b) w1 g1.gh
    | false => exact ⟨G1, I.grow g1, w1⟩⟩
theorem xt_not (h : XT X ρ a m) : XT X ρ (.UnaryOp .Not a pos) (notR m) := fun b hk => pt_imp (pt_not (h b hk)) fun σ H Q ⟨G, I, w⟩ =>
  ⟨G, I, seqB (outT b Q) w fun x G1 H1 g1 w1 => EndT.give (b := b) w1 g1.gh⟩
theorem xe_one {op} (h : XO X ρ a (kE tBool) m) : XO X ρ (.BoolOp op [a] pos) (kE tBool) m := fun b hk => pe_one (h b hk)
theorem xe_and (h : XO X ρ a (kE tBool) m) (h2 : XO X ρ (.BoolOp .And (b' :: rest) pos) (kE tBool) n) : XO X ρ (.BoolOp .And (a :: b' :: rest) pos) (kE tBool) (andR m n) := fun b hk => pe_imp (pe_and (h b hk) (h2 b hk)) fun σ H Q ⟨G, I, w⟩ =>
  ⟨G, I, seqO (outO b (kE tBool) H Q) w fun x v G1 H1 g1 r w1 => ⟨x, r, by
    cases x with
    | true => exact ⟨G1, I.grow g1, by cases n <;> exact w1⟩
    | false => exact EndO.give w1 g1.gh rfl⟩⟩
theorem xe_or (h : XO X ρ a (kE tBool) m) (h2 : XO X ρ (.BoolOp .Or (b' :: rest) pos) (kE tBool) n) : XO X ρ (.BoolOp .Or (a :: b' :: rest) pos) (kE tBool) (orR m n) := fun b hk => pe_imp (pe_or (h b hk) (h2 b hk)) fun σ H Q ⟨G, I, w⟩ =>
  ⟨G, I, seqO (outO b (kE tBool) H Q) w fun x v G1 H1 g1 r w1 => ⟨x, r, by
    cases x with
    | true => exact EndO.give w1 g1.gh rfl
    | false => exact ⟨G1, I.grow g1, by cases n <;> exact w1⟩⟩⟩
theorem xe_not (h : XO X ρ a (kE tBool) m) : XO X ρ (.UnaryOp .Not a pos) (kE tBool) (notR m) := fun b hk => pe_imp (pe_not (h b hk)) fun σ H Q ⟨G, I, w⟩ =>
  ⟨G, I, seqO (outO b (kE tBool) H Q) w fun x v G1 H1 g1 r w1 => ⟨x, r, EndO.give w1 g1.gh rfl⟩⟩
/-- a if t else b -/
theorem xo_ifExp {o : Kd α} {c : Expr} {m1 m2 : R α} (hc : XT X ρ c m) (h1 : XO X ρ a o m1) (h2 : XO X ρ b' o m2) : XO X ρ (.IfExp c a b' pos) o (m.bind fun t => if t = true then m1 else m2) := fun b hk =>
  pe_imp (pe_ifExp (hc b hk) (h1 b hk) (h2 b hk)) fun σ H Q ⟨G, I, w⟩ => ⟨G, I, seqB (outO b o H Q) w fun x G1 H1 g1 w1 => by
    cases x with
    | true => exact ⟨G1, I.grow g1, by
        revert w1
        show EndO b o m1 H G1 H1 Q → _
        cases m1 with
        | ok y => exact fun w1 v G' H' g r => w1 v G' H' g (o.back g1.h r)
        | err c => exact id
        | bad => exact id⟩
    | false => exact ⟨G1, I.grow g1, by
        revert w1
        show EndO b o m2 H G1 H1 Q → _
        cases m2 with
        | ok y => exact fun w1 v G' H' g r => w1 v G' H' g (o.back g1.h r)
        | err c => exact id
        | bad => exact id⟩⟩
end
end
end Tr
end
section
set_option maxRecDepth 100000
set_option maxHeartbeats 2000000
/-! Tr4: rows of arguments, displays, subscripts, slices, lists. -/
namespace Tr
open PySem L2
variable [hasT : HasT] {α β γ δ τ : Type}
section
variable {X : Cx} {ρ : Env} {e a b' : Expr} {pos : Pos} {i : Nat} {nm : Str} {ma : R α} {mb : R β} {mi mj : R Int} {es : List Expr} {ts : AT τ} {ms : R τ}

/-! ### rows -/
theorem xa_nil : XA X ρ [] aNil (.ok ()) := fun b hk => pa_imp pa_nil fun σ H Q ⟨G, I, w⟩ => w [] G H (Grow.refl I.gh) rfl
theorem xa_cons {t : Ty α} (h : XO X ρ e (kE t) ma) (h2 : XA X ρ es ts ms) (hs : starEach (e :: es) X.env = (false, eval e X.env) :: starEach es X.env := by rfl) :
    XA X ρ (e :: es) (aCons t ts) (ma.bind fun x => ms.bind fun y => .ok (x, y)) := fun b hk => pa_imp (pa_cons (h b hk) (h2 b hk) hs) fun σ H Q ⟨G, I, w⟩ =>
  ⟨G, I, seqO (outA b (aCons t ts) Q) w fun x v G1 H1 g1 r1 w1 => ⟨G1, I.grow g1, seqA (outA b (aCons t ts) Q) w1 fun y vs G2 H2 g2 r2 w2 =>
    w2 (v :: vs) G2 H2 (Grow.refl g2.gh) ⟨v, vs, rfl, t.mono g2.g r1, r2⟩⟩⟩
theorem EndA.gives {b : Bs} {x : τ} {vs : List V} {G H : Hp} {Q : List V → Hp → Prop} (h : EndA b ts (.ok x) G H Q) (gh : Same G H) (r : ts.rel b G vs x) : Q vs H := h vs G H (Grow.refl gh) r
/-- rows of one sort -/
def aAll (t : Ty α) : AT (List α) := ⟨fun b G vs xs => Paired (t.rel b G) vs xs, fun s h => pmap h fun _ _ => t.mono s, fun k n h => pmap h fun _ _ => t.up k n⟩
theorem xl_nil {t : Ty α} : XA X ρ [] (aAll t) (.ok []) := fun b hk => pa_imp pa_nil fun σ H Q ⟨G, I, w⟩ => w [] G H (Grow.refl I.gh) .nil
theorem xl_cons {t : Ty α} {ml : R (List α)} (h : XO X ρ e (kE t) ma) (h2 : XA X ρ es (aAll t) ml) (hs : starEach (e :: es) X.env = (false, eval e X.env) :: starEach es X.env := by rfl) :
    XA X ρ (e :: es) (aAll t) (ma.bind fun x => ml.bind fun y => .ok (x :: y)) := fun b hk => pa_imp (pa_cons (h b hk) (h2 b hk) hs) fun σ H Q ⟨G, I, w⟩ =>
  ⟨G, I, seqO (outA b (aAll t) Q) w fun x v G1 H1 g1 r1 w1 => ⟨G1, I.grow g1, seqA (outA b (aAll t) Q) w1 fun y vs G2 H2 g2 r2 w2 =>
    w2 (v :: vs) G2 H2 (Grow.refl g2.gh) (.cons (t.mono g2.g r1) r2)⟩⟩
def szOk (n : Nat) : Bool := decide (n ≤ sizeLine)
def szR (n : Nat) : R Unit := guardR (szOk n)
/-- [a, b, ..] -/
theorem xf_lst {t : Ty α} {ml : R (List α)} (h : XA X ρ es (aAll t) ml) (hz : es.length ≤ 1000 := by decide) : XO X ρ (.List es pos) (kF t) (ml.bind fun xs => (szR xs.length).bind fun _ => .ok xs) := fun b hk => pe_imp (pe_lst (h b hk)) fun σ H Q ⟨G, I, w⟩ =>
  ⟨G, I, seqA (outO b (kF t) H Q) w fun xs vs G1 H1 g1 r1 w1 => by
    obtain ⟨c, w1⟩ := EndO.guard w1
    refine ⟨by
      rw [plen r1]
      exact of_decide_eq_true c, fun p hp => ?_⟩
    exact w1.giveN g1.gh hp ⟨p, vs, rfl, g1.h.free hp, g1.gh.free hp, upd_same, r1⟩⟩
/-- (a, b, ..) -/
theorem xe_tup {k : Nat} (h : XA X ρ es ts ms) (hz : ∀ b G vs x, ts.rel b G vs x → vs.length ≤ 1000) : XO X ρ (.Tuple es k pos) (kE (tT ts)) ms := fun b hk => pe_imp (pe_tup (h b hk)) fun σ H Q ⟨G, I, w⟩ => by
  rw [← R.bind_ok ms] at w
  refine ⟨G, I, seqA (outO b (kE (tT ts)) H Q) w fun x vs G1 H1 g1 r1 w1 => ⟨Nat.le_trans (hz _ _ _ _ r1) (by
    rw [sizeLine_eq]
    decide), fun p hp => ?_⟩⟩
  exact EndO.giveF w1 g1.gh hp ⟨p, vs, rfl, .inl (.inl upd_same), ts.mono (same_upd (g1.gh.free hp)) r1⟩
/-- .. of one sort -/
theorem xe_tupL {k : Nat} {t : Ty α} {ml : R (List α)} (h : XA X ρ es (aAll t) ml) : XO X ρ (.Tuple es k pos) (kE (tTupL t)) (ml.bind fun xs => (szR xs.length).bind fun _ => .ok xs) := fun b hk => pe_imp (pe_tup (h b hk)) fun σ H Q ⟨G, I, w⟩ =>
  ⟨G, I, seqA (outO b (kE (tTupL t)) H Q) w fun xs vs G1 H1 g1 r1 w1 => by
    obtain ⟨c, w1⟩ := EndO.guard w1
    refine ⟨by
      rw [plen r1]
      exact of_decide_eq_true c, fun p hp => ?_⟩
    exact w1.giveF g1.gh hp ⟨p, vs, rfl, .inl (.inl upd_same), pmap r1 fun _ _ => t.mono (same_upd (g1.gh.free hp))⟩⟩
theorem len_nil : ∀ (b : Bs) (G : Hp) vs x, aNil.rel b G vs x → vs.length = 0 := fun _ _ vs _ h => by
  rw [show vs = [] from h]
  rfl
theorem len_cons {t : Ty α} {n : Nat} (h : ∀ (b : Bs) (G : Hp) vs x, ts.rel b G vs x → vs.length = n) : ∀ (b : Bs) (G : Hp) vs x, (aCons t ts).rel b G vs x → vs.length = n + 1 := fun b G vs x ⟨v, r, e, _, h2⟩ => by
  rw [e, List.length_cons, h b G r _ h2]

/-! ### subscripts -/
def atR (xs : List α) (i : Int) : R α := optR (atI xs i)
theorem atI_pair {F : V → α → Prop} {vs : List V} {xs : List α} (p : Paired F vs xs) {i : Int} {x : α} (h : atI xs i = some x) : ∃ v, atI vs i = some v ∧ F v x := by
  unfold atI at h ⊢
  rw [plen p]
  cases e : ixN xs.length i with
  | none => rw [e] at h; cases h
  | some j =>
    rw [e] at h
    exact pget p h
/-- xs[i] -/
theorem xe_ix {t : Ty α} {m : R (List α)} (ha : XO X ρ a (kL t) m) (hb : XO X ρ b' (kE tInt) mi) (hs : PlainIx b' := by exact fun _ _ => rfl) : XO X ρ (.Subscript a b' pos) (kE t) (m.bind fun xs => mi.bind fun i => atR xs i) := fun b hk =>
  pe_imp (pe_ix ix_list (ha b hk) (hb b hk) hs) fun σ H Q ⟨G, I, w⟩ => seq2 hk.K (fun b H0 G H vx vy x y Q hb A ⟨p, vs, e, h, r⟩ r2 w => by
    unfold atR at w
    cases q : atI x y with
    | none =>
      rw [q] at w
      exact w.elim
    | some z =>
      rw [q] at w
      obtain ⟨v, hv, rv⟩ := atI_pair r q
      exact ⟨p, vs, y, v, e, r2, .inl (.inl h), hv, EndO.give w A.gh rv⟩) I w
/-- of the script -/
theorem xe_ixS {t : Ty α} {m : R (List α)} (ha : XO X ρ a (kE (tSeq t)) m) (hb : XO X ρ b' (kE tInt) mi) (hs : PlainIx b' := by exact fun _ _ => rfl) : XO X ρ (.Subscript a b' pos) (kE t) (m.bind fun xs => mi.bind fun i => atR xs i) := fun b hk =>
  pe_imp (pe_ix ix_list (ha b hk) (hb b hk) hs) fun σ H Q ⟨G, I, w⟩ => seq2 hk.K (fun b H0 G H vx vy x y Q hb A ⟨p, vs, e, h, r⟩ r2 w => by
    unfold atR at w
    cases q : atI x y with
    | none =>
      rw [q] at w
      exact w.elim
    | some z =>
      rw [q] at w
      obtain ⟨v, hv, rv⟩ := atI_pair r q
      refine ⟨p, vs, y, v, e, r2, ?_, hv, EndO.give w A.gh rv⟩
      rw [← hb]
      exact Same.seq A.gh h) I w
/-- of a tuple of one sort -/
theorem xe_ixT {t : Ty α} {m : R (List α)} (ha : XO X ρ a (kE (tTupL t)) m) (hb : XO X ρ b' (kE tInt) mi) (hs : PlainIx b' := by exact fun _ _ => rfl) : XO X ρ (.Subscript a b' pos) (kE t) (m.bind fun xs => mi.bind fun i => atR xs i) := fun b hk =>
  pe_imp (pe_ix ix_tup (ha b hk) (hb b hk) hs) fun σ H Q ⟨G, I, w⟩ => seq2 hk.K (fun b H0 G H vx vy x y Q hb A ⟨p, vs, e, h, r⟩ r2 w => by
    unfold atR at w
    cases q : atI x y with
    | none =>
      rw [q] at w
      exact w.elim
    | some z =>
      rw [q] at w
      obtain ⟨v, hv, rv⟩ := atI_pair r q
      refine ⟨p, vs, y, v, e, r2, ?_, hv, EndO.give w A.gh rv⟩
      rw [← hb]
      exact seqT A.gh h) I w
/-- the k-th place of a row -/
structure Nth (ts : AT τ) (k : Nat) (t : Ty α) (f : τ → α) : Prop where
  nth : ∀ {b : Bs} {G : Hp} {vs : List V} {x : τ}, ts.rel b G vs x → ∃ v, vs[k]? = some v ∧ t.rel b G v (f x)
theorem nth0 {t : Ty α} : Nth (aCons t ts) 0 t Prod.fst := ⟨fun ⟨v, r, e, h, _⟩ => ⟨v, by rw [e]; rfl, h⟩⟩
theorem nthS {t : Ty α} {u : Ty β} {k : Nat} {f : τ → β} (n : Nth ts k u f) : Nth (aCons t ts) (k + 1) u (fun x => f x.2) := ⟨fun ⟨v, r, e, _, h⟩ => by
  obtain ⟨w, h1, h2⟩ := n.nth h
  exact ⟨w, by rw [e]; exact h1, h2⟩⟩
/-- t[k] of a tuple, k written -/
theorem xe_nth {t : Ty α} {k : Nat} {f : τ → α} {j p2} (ha : XO X ρ a (kE (tT ts)) ms) (n : Nth ts k t f) : XO X ρ (.Subscript a (.Constant (.int (k : Int)) j p2) pos) (kE t) (ms.bind fun x => .ok (f x)) := fun b hk =>
  pe_imp (pe_ix ix_tup (ha b hk) pe_int (fun _ _ => rfl)) fun σ H Q ⟨G, I, w⟩ => ⟨G, I, seqO (outO b (kE t) H Q) w fun x v G1 H1 g1 ⟨p, vs, e, h, r⟩ w1 => by
    obtain ⟨v, hv, rv⟩ := n.nth r
    refine ⟨p, vs, k, v, e, rfl, ?_, atI_nat hv, EndO.give w1 g1.gh rv⟩
    rw [← hk.K]
    exact seqT g1.gh h⟩

/-! ### slices -/
def cutL (xs : List α) (lo hi : Option Int) : List α := (xs.drop (HT.sIx xs.length 0 lo)).take (HT.sIx xs.length xs.length hi - HT.sIx xs.length 0 lo)
theorem pcut {F : V → α → Prop} {vs : List V} {xs : List α} (p : Paired F vs xs) (lo hi : Option Int) : Paired F (cutV vs lo hi) (cutL xs lo hi) := by
  unfold cutV cutL
  rw [plen p]
  exact ptake _ (pdrop _ p)
def XPart (X : Cx) (ρ : Env) (e : Option Expr) (m : R (Option Int)) : Prop := ∀ b : Bs, BOk X b → PO X e fun σ H Q => ∃ G, EnvOk b G H σ ρ ∧ match m with
  | .ok x => ∀ G' H', Grow G H G' H' → Q x H'
  | .err c => ∀ H', Sm H H' → b.er c H'
  | .bad => False
theorem po_imp {e : Option Expr} {t t' : TO} (h : PO X e t) (k : ∀ σ H Q, t' σ H Q → t σ H Q) : PO X e t' := ⟨fun pins s σ H Q I w => h.run pins s σ H Q I (k _ _ _ w)⟩
theorem xp_none : XPart X ρ none (.ok none) := fun b hk => po_imp po_none fun σ H Q ⟨G, I, w⟩ => w G H (Grow.refl I.gh)
theorem xp_some (h : XO X ρ e (kE tInt) mi) : XPart X ρ (some e) (mi.bind fun i => .ok (some i)) := fun b hk => po_imp (po_some (h b hk)) fun σ H Q ⟨G, I, w⟩ => ⟨G, I, by
  cases mi with
  | ok x => exact fun v G' H' g r => ⟨x, r, w G' H' g⟩
  | err c => exact w
  | bad => exact w⟩
/-- xs[lo:hi] -/
theorem xf_slice {t : Ty α} {m : R (List α)} {lo hi : Option Expr} {ml mh : R (Option Int)} {p2 : Pos} (ha : XO X ρ a (kL t) m) (hl : XPart X ρ lo ml) (hu : XPart X ρ hi mh) :
    XO X ρ (.Subscript a (.Slice lo hi none p2) pos) (kF t) (m.bind fun xs => ml.bind fun l => mh.bind fun u => .ok (cutL xs l u)) := fun b hk =>
  pe_imp (pe_slice sl_list (ha b hk) (hl b hk) (hu b hk)) fun σ H Q ⟨G, I, w⟩ => ⟨G, I, seqO (outO b (kF t) H Q) w fun xs v G1 H1 g1 r1 w1 => ⟨G1, I.grow g1, by
    cases ml with
    | err c => exact (outO b (kF t) H Q).err w1
    | bad => exact w1
    | ok l =>
      refine fun G2 H2 g2 => ⟨G2, (I.grow g1).grow g2, ?_⟩
      have w2 := (outO b (kF t) H Q).shift g2 w1
      cases mh with
      | err c => exact (outO b (kF t) H Q).err w2
      | bad => exact w2
      | ok u =>
        refine fun G3 H3 g3 => ?_
        have w3 := (outO b (kF t) H Q).shift g3 w2
        obtain ⟨p, vs, e, h, r⟩ := (kL t).mono (b := b) (H0 := H) (g2.trans g3) r1
        refine ⟨p, vs, e, .inl (.inl h), fun q hq => ?_⟩
        exact EndO.giveN w3 g3.gh hq ⟨q, _, rfl, ((g1.h.trans g2.h).trans g3.h).free hq, g3.gh.free hq, upd_same, pcut r l u⟩⟩⟩

/-! ### + and * of lists, in -/
def catR (xs ys : List α) : R (List α) := (szR (xs.length + ys.length)).bind fun _ => .ok (xs ++ ys)
theorem xf_cat {t : Ty α} {m n : R (List α)} (ha : XO X ρ a (kL t) m) (hb : XO X ρ b' (kL t) n) : XO X ρ (.BinOp a .Add b' pos) (kF t) (m.bind fun x => n.bind fun y => catR x y) :=
  xo_op2 (oa := kL t) (ob := kL t) (oc := kF t) op_cat (fun b H0 G H vx vy x y Q hb A ⟨p, vs, e, h, r⟩ ⟨q, us, e2, h2, r2⟩ w => by
    obtain ⟨c, w⟩ := w.guard
    exact ⟨p, q, vs, us, e, e2, h, h2, by
      rw [plen r, plen r2]
      exact of_decide_eq_true c, fun z hz => w.giveN A.gh hz ⟨z, _, rfl, A.hh.free hz, A.gh.free hz, upd_same, papp r r2⟩⟩) ha hb
def repL (xs : List α) (k : Int) : List α := (List.replicate k.toNat xs).flatten
def repR (xs : List α) (k : Int) : R (List α) := (guardR (decide (-(2 ^ 63) ≤ k) && decide (k < 2 ^ 63) && szOk (xs.length * k.toNat))).bind fun _ => .ok (repL xs k)
theorem pflat {F : V → α → Prop} : ∀ {l : List (List V)} {m : List (List α)}, Paired (Paired F) l m → Paired F l.flatten m.flatten
  | _, _, .nil => .nil
  | _, _, .cons r t => papp r (pflat t)
theorem xf_rep {t : Ty α} {m : R (List α)} (ha : XO X ρ a (kL t) m) (hb : XO X ρ b' (kE tInt) mi) : XO X ρ (.BinOp a .Mult b' pos) (kF t) (m.bind fun x => mi.bind fun y => repR x y) :=
  xo_op2 (oa := kL t) (ob := kE tInt) (oc := kF t) op_rep (fun b H0 G H vx vy x y Q hb A ⟨p, vs, e, h, r⟩ r2 w => by
    obtain ⟨c, w⟩ := w.guard
    simp only [Bool.and_eq_true, decide_eq_true_eq] at c
    exact ⟨p, y, vs, e, r2, h, c.1.1, c.1.2, by
      rw [plen r]
      exact of_decide_eq_true c.2, fun z hz => w.giveN A.gh hz ⟨z, _, rfl, A.hh.free hz, A.gh.free hz, upd_same, pflat (prep r _)⟩⟩) ha hb
/-- sorts of scalars whose == is that of Lean -/
class Flt (t : Ty α) (f : outParam (α → α → Bool)) : Prop where
  fl : ∀ {b : Bs} {G : Hp} {v : V} {x : α}, t.rel b G v x → flatV v = true
  eq : ∀ {b : Bs} {G G' : Hp} {v w : V} {x y : α}, t.rel b G v x → t.rel b G' w y → eqV v w = f x y
instance : Flt tInt (fun x y => x == y) := ⟨fun h => by
  cases h
  rfl, fun h1 h2 => by
  cases h1
  cases h2
  rfl⟩
instance : Flt tStr (fun x y => x == y) := ⟨fun h => by
  cases h
  rfl, fun h1 h2 => by
  cases h1
  cases h2
  rfl⟩
instance : Flt tBool (fun x y => x == y) := ⟨fun h => by
  cases h
  rfl, fun h1 h2 => by
  cases h1
  cases h2
  rfl⟩
theorem flat_all {t : Ty α} {f : α → α → Bool} [q : Flt t f] {b : Bs} {G : Hp} : ∀ {vs : List V} {xs : List α}, Paired (t.rel b G) vs xs → vs.all flatV = true
  | _, _, .nil => rfl
  | _, _, .cons r p => by
    rw [List.all_cons, q.fl r, flat_all p]
    rfl
theorem inV_any {t : Ty α} {f : α → α → Bool} [q : Flt t f] {b : Bs} {G G' : Hp} {v : V} {x : α} (h : t.rel b G' v x) : ∀ {vs : List V} {xs : List α}, Paired (t.rel b G) vs xs → inV v vs = xs.any fun y => f y x
  | _, _, .nil => rfl
  | _, _, .cons r p => by
    have ih := inV_any h p
    unfold inV at ih ⊢
    rw [List.any_cons, List.any_cons, ih, q.eq r h]
theorem o2_in {t : Ty α} {f : α → α → Bool} [q : Flt t f] : Op2 X (rIn X.K false) (kE t) (kL t) (kE tBool) fun x ys => .ok (ys.any fun y => f y x) := fun b H0 G H vx vy x y Q hb A r ⟨p, vs, e, h, rs⟩ w =>
  ⟨p, vs, e, .inl (.inl (.inl h)), q.fl r, flat_all rs, by
    rw [show (if false = true then !inV vx vs else inV vx vs) = inV vx vs from rfl, inV_any r rs]
    exact w.give A.gh rfl⟩
theorem o2_nin {t : Ty α} {f : α → α → Bool} [q : Flt t f] : Op2 X (rIn X.K true) (kE t) (kL t) (kE tBool) fun x ys => .ok (!(ys.any fun y => f y x)) := fun b H0 G H vx vy x y Q hb A r ⟨p, vs, e, h, rs⟩ w =>
  ⟨p, vs, e, .inl (.inl (.inl h)), q.fl r, flat_all rs, by
    rw [show (if true = true then !inV vx vs else inV vx vs) = !inV vx vs from rfl, inV_any r rs]
    exact w.give A.gh rfl⟩
section
variable {t : Ty α} {f : α → α → Bool} [q : Flt t f] {m : R (List α)}
theorem xe_in (ha : XO X ρ a (kE t) ma) (hb : XO X ρ b' (kL t) m) (hm : behindInMarks .In b' = false := by rfl) : XO X ρ (.Compare a [.In] [b'] pos) (kE tBool) (ma.bind fun x => m.bind fun ys => .ok (ys.any fun y => f y x)) := xo_cmp op_in_seq o2_in hm ha hb
theorem xt_in (ha : XO X ρ a (kE t) ma) (hb : XO X ρ b' (kL t) m) (hm : behindInMarks .In b' = false := by rfl) : XT X ρ (.Compare a [.In] [b'] pos) (ma.bind fun x => m.bind fun ys => .ok (ys.any fun y => f y x)) := xt_cmp op_in_seq o2_in hm ha hb
theorem xe_nin (ha : XO X ρ a (kE t) ma) (hb : XO X ρ b' (kL t) m) (hm : behindInMarks .NotIn b' = false := by rfl) : XO X ρ (.Compare a [.NotIn] [b'] pos) (kE tBool) (ma.bind fun x => m.bind fun ys => .ok (!(ys.any fun y => f y x))) := xo_cmp op_notIn_seq o2_nin hm ha hb
theorem xt_nin (ha : XO X ρ a (kE t) ma) (hb : XO X ρ b' (kL t) m) (hm : behindInMarks .NotIn b' = false := by rfl) : XT X ρ (.Compare a [.NotIn] [b'] pos) (ma.bind fun x => m.bind fun ys => .ok (!(ys.any fun y => f y x))) := xt_cmp op_notIn_seq o2_nin hm ha hb
end

/-! ### chains of comparisons of ints -/
section
variable {op op' : CmpOp} {p q : Int → Int → Bool} {c : Expr} {mk : R Int}
def chainR (p q : Int → Int → Bool) (mi mj mk : R Int) : R Bool := mi.bind fun x => mj.bind fun y => if p x y = true then mk.bind fun z => .ok (q y z) else .ok false
theorem chain_seq {b : Bs} {σ : St} {G H : Hp} {Q : VK} (I : EnvOk b G H σ ρ) (w : EndO b (kE tBool) (chainR p q mi mj mk) H G H Q) :
    tChain (rI0 fun i j => .bl (p i j)) (rI0 fun i j => .bl (q i j)) (tO b ρ (kE tInt) mi) (tO b ρ (kE tInt) mj) (tO b ρ (kE tInt) mk) σ H Q :=
  ⟨G, I, seqO (outO b (kE tBool) H Q) w fun x vx G1 H1 g1 r1 w1 => ⟨G1, I.grow g1, seqO (outO b (kE tBool) H Q) w1 fun y vy G2 H2 g2 r2 w2 =>
    ⟨x, y, r1, r2, p x y, rfl, by
      cases hp : p x y with
      | true =>
        rw [hp, if_pos rfl] at w2
        exact ⟨G2, (I.grow g1).grow g2, seqO (outO b (kE tBool) H Q) w2 fun z vz G3 H3 g3 r3 w3 => ⟨y, z, r2, r3, EndO.give w3 g3.gh rfl⟩⟩
      | false =>
        rw [hp, if_neg Bool.false_ne_true] at w2
        exact EndO.give w2 g2.gh rfl⟩⟩⟩
theorem xe_chain (ho : OpR X (compareOp op) (rI0 fun i j => .bl (p i j))) (ho' : OpR X (compareOp op') (rI0 fun i j => .bl (q i j))) (ha : XO X ρ a (kE tInt) mi) (hb : XO X ρ b' (kE tInt) mj) (hc : XO X ρ c (kE tInt) mk)
    (hm : lastMarks [op, op'] [b', c] = false := by with_unfolding_all rfl) : XO X ρ (.Compare a [op, op'] [b', c] pos) (kE tBool) (chainR p q mi mj mk) := fun b hk =>
  pe_imp (pe_chain ho ho' (ha b hk) (hb b hk) (hc b hk) hm) fun σ H Q ⟨G, I, w⟩ => chain_seq I w
theorem xt_chain (ho : OpR X (compareOp op) (rI0 fun i j => .bl (p i j))) (ho' : OpR X (compareOp op') (rI0 fun i j => .bl (q i j))) (ha : XO X ρ a (kE tInt) mi) (hb : XO X ρ b' (kE tInt) mj) (hc : XO X ρ c (kE tInt) mk)
    (hm : lastMarks [op, op'] [b', c] = false := by with_unfolding_all rfl) : XT X ρ (.Compare a [op, op'] [b', c] pos) (chainR p q mi mj mk) := fun b hk =>
  pt_imp (pt_chain ho ho' (ha b hk) (hb b hk) (hc b hk) hm) fun σ H Q ⟨G, I, w⟩ => chain_seq I w.asO
end

/-! ### built-ins called by name -/
/-- a built-in by its name, its arguments a row -/
theorem xo_callB {oc : Kd γ} {f : τ → R γ} {id : String} {r : List V → Hp → VK → Prop} {p : Pos} (hc : CallR X (.builtin id) r)
    (hr : ∀ (b : Bs) (H0 G H : Hp) (vs : List V) (x : τ) (Q : VK), b.K = X.K → At b H0 G H → ts.rel b G vs x → EndO b oc (f x) H0 G H Q → r vs H Q)
    (hg : Gl X nm) (hm : X.mg nm = none) (hv : bootBuiltins nm = some (.builtin id)) (ha : XA X ρ (e :: es) ts ms) (hn : nm ≠ "__name__" := by decide) (hdb : (nm == ("__debug__" : Str)) = false := by decide)
    (he : starEach (e :: es) X.env = (false, eval e X.env) :: starEach es X.env := by rfl) (hpl : (backTo pos (starEach es X.env)).any (·.1) = false := by rfl) :
    XO X ρ (.Call (.Name nm p) (e :: es) [] pos) oc (ms.bind f) := fun b hk => pe_imp (pe_callB hc hg hm hv (ha b hk) hn hdb he hpl) fun σ H Q ⟨G, I, w⟩ =>
  ⟨G, I, seqA (outO b oc H Q) w fun x vs G1 H1 g1 r1 w1 => hr b H G1 H1 vs x Q hk.K ⟨g1.gh, g1.h, I.bh, g1.nt I.nt⟩ r1 w1⟩
theorem xo_callTy {oc : Kd γ} {f : τ → R γ} {T : String} {r : List V → Hp → VK → Prop} {p : Pos} (hc : CallR X (.type T) r)
    (hr : ∀ (b : Bs) (H0 G H : Hp) (vs : List V) (x : τ) (Q : VK), b.K = X.K → At b H0 G H → ts.rel b G vs x → EndO b oc (f x) H0 G H Q → r vs H Q)
    (hg : Gl X nm) (hm : X.mg nm = none) (hv : bootBuiltins nm = some (.type T)) (ha : XA X ρ (e :: es) ts ms) (hn : nm ≠ "__name__" := by decide) (hdb : (nm == ("__debug__" : Str)) = false := by decide)
    (he : starEach (e :: es) X.env = (false, eval e X.env) :: starEach es X.env := by rfl) (hpl : (backTo pos (starEach es X.env)).any (·.1) = false := by rfl) :
    XO X ρ (.Call (.Name nm p) (e :: es) [] pos) oc (ms.bind f) := fun b hk => pe_imp (pe_callTy hc hg hm hv (ha b hk) hn hdb he hpl) fun σ H Q ⟨G, I, w⟩ =>
  ⟨G, I, seqA (outO b oc H Q) w fun x vs G1 H1 g1 r1 w1 => hr b H G1 H1 vs x Q hk.K ⟨g1.gh, g1.h, I.bh, g1.nt I.nt⟩ r1 w1⟩
/-- one argument of any kind -/
theorem xo_callB1 {oa : Kd α} {oc : Kd γ} {f : α → R γ} {id : String} {r : List V → Hp → VK → Prop} {p : Pos} (hc : CallR X (.builtin id) r)
    (hr : ∀ (b : Bs) (H0 G H : Hp) (v : V) (x : α) (Q : VK), b.K = X.K → At b H0 G H → oa.rel b H0 G H v x → EndO b oc (f x) H0 G H Q → r [v] H Q)
    (hg : Gl X nm) (hm : X.mg nm = none) (hv : bootBuiltins nm = some (.builtin id)) (ha : XO X ρ e oa ma) (hn : nm ≠ "__name__" := by decide) (hdb : (nm == ("__debug__" : Str)) = false := by decide)
    (hs : starEach [e] X.env = (false, eval e X.env) :: starEach [] X.env := by rfl) :
    XO X ρ (.Call (.Name nm p) [e] [] pos) oc (ma.bind f) := fun b hk => pe_imp (pe_callB hc hg hm hv (pa_cons (ha b hk) pa_nil hs) hn hdb hs rfl) fun σ H Q ⟨G, I, w⟩ =>
  ⟨G, I, seqO (outO b oc H Q) w fun x v G1 H1 g1 r1 w1 => hr b H G1 H1 v x Q hk.K ⟨g1.gh, g1.h, I.bh, g1.nt I.nt⟩ r1 w1⟩
theorem xo_callTy1 {oa : Kd α} {oc : Kd γ} {f : α → R γ} {T : String} {r : List V → Hp → VK → Prop} {p : Pos} (hc : CallR X (.type T) r)
    (hr : ∀ (b : Bs) (H0 G H : Hp) (v : V) (x : α) (Q : VK), b.K = X.K → At b H0 G H → oa.rel b H0 G H v x → EndO b oc (f x) H0 G H Q → r [v] H Q)
    (hg : Gl X nm) (hm : X.mg nm = none) (hv : bootBuiltins nm = some (.type T)) (ha : XO X ρ e oa ma) (hn : nm ≠ "__name__" := by decide) (hdb : (nm == ("__debug__" : Str)) = false := by decide)
    (hs : starEach [e] X.env = (false, eval e X.env) :: starEach [] X.env := by rfl) :
    XO X ρ (.Call (.Name nm p) [e] [] pos) oc (ma.bind f) := fun b hk => pe_imp (pe_callTy hc hg hm hv (pa_cons (ha b hk) pa_nil hs) hn hdb hs rfl) fun σ H Q ⟨G, I, w⟩ =>
  ⟨G, I, seqO (outO b oc H Q) w fun x v G1 H1 g1 r1 w1 => hr b H G1 H1 v x Q hk.K ⟨g1.gh, g1.h, I.bh, g1.nt I.nt⟩ r1 w1⟩
section
variable {t : Ty α} {m : R (List α)} {p : Pos}
theorem xe_len (hg : Gl X "len") (hm : X.mg "len" = none) (ha : XO X ρ e (kL t) m) (hs : starEach [e] X.env = (false, eval e X.env) :: starEach [] X.env := by rfl) : XO X ρ (.Call (.Name "len" p) [e] [] pos) (kE tInt) (m.bind fun xs => .ok (xs.length : Int)) :=
  xo_callB1 (oa := kL t) call_len_seq (fun b H0 G H v x Q hb A ⟨a, vs, e, h, r⟩ w => ⟨a, vs, by rw [e], .inl (.inl (.inl h)), by
    rw [plen r]
    exact w.give A.gh rfl⟩) hg hm PySem.boot_len ha (by decide) (by decide) hs
theorem xe_lenS (hg : Gl X "len") (hm : X.mg "len" = none) (ha : XO X ρ e (kE (tSeq t)) m) (hs : starEach [e] X.env = (false, eval e X.env) :: starEach [] X.env := by rfl) : XO X ρ (.Call (.Name "len" p) [e] [] pos) (kE tInt) (m.bind fun xs => .ok (xs.length : Int)) :=
  xo_callB1 (oa := kE (tSeq t)) call_len_seq (fun b H0 G H v x Q hb A ⟨a, vs, e, h, r⟩ w => ⟨a, vs, by rw [e], .inl (by
    rw [← hb]
    exact Same.seq A.gh h), by
    rw [plen r]
    exact w.give A.gh rfl⟩) hg hm PySem.boot_len ha (by decide) (by decide) hs
theorem xe_lenT (hg : Gl X "len") (hm : X.mg "len" = none) (ha : XO X ρ e (kE (tTupL t)) m) (hs : starEach [e] X.env = (false, eval e X.env) :: starEach [] X.env := by rfl) : XO X ρ (.Call (.Name "len" p) [e] [] pos) (kE tInt) (m.bind fun xs => .ok (xs.length : Int)) :=
  xo_callB1 (oa := kE (tTupL t)) call_len_seq (fun b H0 G H v x Q hb A ⟨a, vs, e, h, r⟩ w => ⟨a, vs, by rw [e], .inr (by
    rw [← hb]
    exact seqT A.gh h), by
    rw [plen r]
    exact w.give A.gh rfl⟩) hg hm PySem.boot_len ha (by decide) (by decide) hs
end
theorem ints_of {b : Bs} {G : Hp} : ∀ {vs : List V} {xs : List Int}, Paired (tInt.rel b G) vs xs → vs = xs.map V.int
  | _, _, .nil => rfl
  | _, _, .cons r p => by
    rw [List.map_cons, ← ints_of p, show _ = V.int _ from r]
theorem bls_of {b : Bs} {G : Hp} : ∀ {vs : List V} {xs : List Bool}, Paired (tBool.rel b G) vs xs → vs = xs.map V.bl
  | _, _, .nil => rfl
  | _, _, .cons r p => by
    rw [List.map_cons, ← bls_of p, show _ = V.bl _ from r]
theorem strs_of {b : Bs} {G : Hp} : ∀ {vs : List V} {xs : List Str}, Paired (tStr.rel b G) vs xs → vs = xs.map V.str
  | _, _, .nil => rfl
  | _, _, .cons r p => by
    rw [List.map_cons, ← strs_of p, show _ = V.str _ from r]
theorem of_ints {b : Bs} {G : Hp} : ∀ (xs : List Int), Paired (tInt.rel b G) (xs.map V.int) xs
  | [] => .nil
  | _ :: r => .cons rfl (of_ints r)
theorem of_strs {b : Bs} {G : Hp} : ∀ (xs : List Str), Paired (tStr.rel b G) (xs.map V.str) xs
  | [] => .nil
  | _ :: r => .cons rfl (of_strs r)
section
variable {m : R (List Int)} {mb' : R (List Bool)} {p : Pos}
theorem xe_sum (hca : X.calm = true) (hg : Gl X "sum") (hm : X.mg "sum" = none) (ha : XO X ρ e (kL tInt) m) (hs : starEach [e] X.env = (false, eval e X.env) :: starEach [] X.env := by rfl) : XO X ρ (.Call (.Name "sum" p) [e] [] pos) (kE tInt) (m.bind fun xs => .ok xs.sum) :=
  xo_callB1 (oa := kL tInt) (cr_sum hca) (fun b H0 G H v x Q hb A ⟨a, vs, e, h, r⟩ w => ⟨a, x, by rw [e], .inl (.inl (by
    rw [← ints_of r]
    exact h)), w.give A.gh rfl⟩) hg hm (by decide +kernel) ha (by decide) (by decide) hs
theorem xe_all (hca : X.calm = true) (hg : Gl X "all") (hm : X.mg "all" = none) (ha : XO X ρ e (kL tBool) mb') (hs : starEach [e] X.env = (false, eval e X.env) :: starEach [] X.env := by rfl) : XO X ρ (.Call (.Name "all" p) [e] [] pos) (kE tBool) (mb'.bind fun xs => .ok (xs.all id)) :=
  xo_callB1 (oa := kL tBool) (cr_all hca) (fun b H0 G H v x Q hb A ⟨a, vs, e, h, r⟩ w => ⟨a, x, by rw [e], .inl (.inl (by
    rw [← bls_of r]
    exact h)), w.give A.gh rfl⟩) hg hm (by decide +kernel) ha (by decide) (by decide) hs
theorem xe_any (hca : X.calm = true) (hg : Gl X "any") (hm : X.mg "any" = none) (ha : XO X ρ e (kL tBool) mb') (hs : starEach [e] X.env = (false, eval e X.env) :: starEach [] X.env := by rfl) : XO X ρ (.Call (.Name "any" p) [e] [] pos) (kE tBool) (mb'.bind fun xs => .ok (xs.any id)) :=
  xo_callB1 (oa := kL tBool) (cr_any hca) (fun b H0 G H v x Q hb A ⟨a, vs, e, h, r⟩ w => ⟨a, x, by rw [e], .inl (.inl (by
    rw [← bls_of r]
    exact h)), w.give A.gh rfl⟩) hg hm (by decide +kernel) ha (by decide) (by decide) hs
/-- the least, the greatest item -/
def minL : List Int → R Int
  | [] => .bad
  | x :: r => .ok (r.foldl min x)
def maxL : List Int → R Int
  | [] => .bad
  | x :: r => .ok (r.foldl max x)
theorem foldl_min_le : ∀ (r : List Int) (x : Int), r.foldl min x ≤ x ∧ ∀ y ∈ r, r.foldl min x ≤ y
  | [], x => ⟨Int.le_refl _, fun _ h => nomatch h⟩
  | z :: r, x => by
    obtain ⟨h1, h2⟩ := foldl_min_le r (min x z)
    rw [List.foldl_cons]
    refine ⟨by omega, fun y hy => ?_⟩
    rcases List.mem_cons.mp hy with e | hy
    · subst e
      omega
    · exact h2 y hy
theorem foldl_min_mem : ∀ (r : List Int) (x : Int), r.foldl min x = x ∨ r.foldl min x ∈ r
  | [], x => .inl rfl
  | z :: r, x => by
    rw [List.foldl_cons]
    rcases foldl_min_mem r (min x z) with h | h
    · rw [h]
      by_cases c : x ≤ z
      · left
        omega
      · right
        rw [show min x z = z by omega]
        exact List.mem_cons_self
    · exact .inr (List.mem_cons_of_mem _ h)
theorem foldl_max_le : ∀ (r : List Int) (x : Int), x ≤ r.foldl max x ∧ ∀ y ∈ r, y ≤ r.foldl max x
  | [], x => ⟨Int.le_refl _, fun _ h => nomatch h⟩
  | z :: r, x => by
    obtain ⟨h1, h2⟩ := foldl_max_le r (max x z)
    rw [List.foldl_cons]
    refine ⟨by omega, fun y hy => ?_⟩
    rcases List.mem_cons.mp hy with e | hy
    · subst e
      omega
    · exact h2 y hy
theorem foldl_max_mem : ∀ (r : List Int) (x : Int), r.foldl max x = x ∨ r.foldl max x ∈ r
  | [], x => .inl rfl
  | z :: r, x => by
    rw [List.foldl_cons]
    rcases foldl_max_mem r (max x z) with h | h
    · rw [h]
      by_cases c : z ≤ x
      · left
        omega
      · right
        rw [show max x z = z by omega]
        exact List.mem_cons_self
    · exact .inr (List.mem_cons_of_mem _ h)
theorem xe_min (hca : X.calm = true) (hg : Gl X "min") (hm : X.mg "min" = none) (ha : XO X ρ e (kL tInt) m) (hs : starEach [e] X.env = (false, eval e X.env) :: starEach [] X.env := by rfl) : XO X ρ (.Call (.Name "min" p) [e] [] pos) (kE tInt) (m.bind minL) :=
  xo_callB1 (oa := kL tInt) (cr_min hca) (fun b H0 G H v x Q hb A ⟨a, vs, e, h, r⟩ w => by
    cases x with
    | nil => exact w.elim
    | cons x r' =>
      refine ⟨a, x :: r', by rw [e], .inl (.inl (by
        rw [← ints_of r]
        exact h)), by simp, fun k hk hle => ?_⟩
      have hm := foldl_min_le r' x
      have hn := foldl_min_mem r' x
      have e1 : k = r'.foldl min x := by
        have h1 : k ≤ r'.foldl min x := by
          rcases hn with q | q
          · rw [q]
            exact hle _ List.mem_cons_self
          · exact hle _ (List.mem_cons_of_mem _ q)
        have h2 : r'.foldl min x ≤ k := by
          rcases List.mem_cons.mp hk with q | q
          · rw [q]
            exact hm.1
          · exact hm.2 _ q
        omega
      rw [e1]
      exact EndO.give w A.gh rfl) hg hm (by decide +kernel) ha (by decide) (by decide) hs
theorem xe_max (hca : X.calm = true) (hg : Gl X "max") (hm : X.mg "max" = none) (ha : XO X ρ e (kL tInt) m) (hs : starEach [e] X.env = (false, eval e X.env) :: starEach [] X.env := by rfl) : XO X ρ (.Call (.Name "max" p) [e] [] pos) (kE tInt) (m.bind maxL) :=
  xo_callB1 (oa := kL tInt) (cr_max hca) (fun b H0 G H v x Q hb A ⟨a, vs, e, h, r⟩ w => by
    cases x with
    | nil => exact w.elim
    | cons x r' =>
      refine ⟨a, x :: r', by rw [e], .inl (.inl (by
        rw [← ints_of r]
        exact h)), by simp, fun k hk hle => ?_⟩
      have hm := foldl_max_le r' x
      have hn := foldl_max_mem r' x
      have e1 : k = r'.foldl max x := by
        have h1 : r'.foldl max x ≤ k := by
          rcases hn with q | q
          · rw [q]
            exact hle _ List.mem_cons_self
          · exact hle _ (List.mem_cons_of_mem _ q)
        have h2 : k ≤ r'.foldl max x := by
          rcases List.mem_cons.mp hk with q | q
          · rw [q]
            exact hm.1
          · exact hm.2 _ q
        omega
      rw [e1]
      exact EndO.give w A.gh rfl) hg hm (by decide +kernel) ha (by decide) (by decide) hs
end
end
end Tr
end
section
set_option maxRecDepth 100000
set_option maxHeartbeats 2000000
/-! Tr5: targets, statements, loops, comprehensions, defs. -/
namespace Tr
open PySem L2
variable [hasT : HasT] {α β γ δ τ τ' ν κ : Type}

/-! ### targets -/
theorem wipe_set' (σ : St) (j : Nat) (y : Option V) : ∀ vs : List Nat, wipe (σ.set j y) vs = if j ∈ vs then wipe σ vs else (wipe σ vs).set j y
  | [] => by simp [wipe]
  | v :: vs => by
    have ih := wipe_set' σ j y vs
    show (wipe (σ.set j y) vs).set v none = if j ∈ v :: vs then (wipe σ vs).set v none else ((wipe σ vs).set v none).set j y
    rw [ih]
    by_cases h1 : j = v
    · subst h1
      rw [if_pos List.mem_cons_self]
      split
      · rfl
      · rw [List.set_set]
    · by_cases h2 : j ∈ vs
      · rw [if_pos h2, if_pos (List.mem_cons_of_mem _ h2)]
      · rw [if_neg h2, if_neg (by
          intro h
          rcases List.mem_cons.mp h with e | h
          · exact h1 e
          · exact h2 h), List.set_comm _ _ h1]
theorem wipe_in {σ : St} {j : Nat} {y : Option V} {vs : List Nat} (h : j ∈ vs) : wipe (σ.set j y) vs = wipe σ vs := by rw [wipe_set', if_pos h]
def tG (b : Bs) (ρ : Env) (t : Ty α) (js : List Nat) (f : Env → α → Env) (x : α) : TG := fun v σ H Q => ∃ G, EnvOk b G H σ ρ ∧ t.rel b G v x ∧ ∀ σ', EnvOk b G H σ' (f ρ x) → (∀ vs : List Nat, (∀ j ∈ js, j ∈ vs) → wipe σ' vs = wipe σ vs) → Q σ' H
def tGs (b : Bs) (ρ : Env) (t : AT τ) (js : List Nat) (f : Env → τ → Env) (x : τ) : TGs := fun v σ H Q => ∃ G, EnvOk b G H σ ρ ∧ t.rel b G v x ∧ ∀ σ', EnvOk b G H σ' (f ρ x) → (∀ vs : List Nat, (∀ j ∈ js, j ∈ vs) → wipe σ' vs = wipe σ vs) → Q σ' H
def XG (X : Cx) (tg : Expr) (t : Ty α) (js : List Nat) (f : Env → α → Env) : Prop := ∀ (b : Bs) (ρ : Env) (x : α), BOk X b → PG X tg (tG b ρ t js f x)
def XGs (X : Cx) (tg : List Expr) (t : AT τ) (js : List Nat) (f : Env → τ → Env) : Prop := ∀ (b : Bs) (ρ : Env) (x : τ), BOk X b → PGs X tg (tGs b ρ t js f x)
theorem pg_imp {X : Cx} {e : Expr} {t t' : TG} (h : PG X e t) (k : ∀ v σ H Q, t' v σ H Q → t v σ H Q) : PG X e t' := ⟨fun pins s σ H v u Q I r w => h.run pins s σ H v u Q I r (k _ _ _ _ w)⟩
theorem pgs_imp {X : Cx} {e : List Expr} {t t' : TGs} (h : PGs X e t) (k : ∀ v σ H Q, t' v σ H Q → t v σ H Q) : PGs X e t' := ⟨fun pins s σ H v u Q I r w => h.run pins s σ H v u Q I r (k _ _ _ _ w)⟩
theorem pt_ex {X : Cx} {e : Expr} {ι : Sort _} {T : ι → TT} (h : ∀ i, PT X e (T i)) : PT X e (fun σ H Q => ∃ i, T i σ H Q) := ⟨fun pins s σ H Q I ⟨i, w⟩ => (h i).run pins s σ H Q I w⟩
theorem pg_ex {X : Cx} {e : Expr} {ι : Sort _} {T : ι → TG} (h : ∀ i, PG X e (T i)) : PG X e (fun v σ H Q => ∃ i, T i v σ H Q) := ⟨fun pins s σ H v u Q I r ⟨i, w⟩ => (h i).run pins s σ H v u Q I r w⟩
section
variable {X : Cx} {pos : Pos} {e : Expr} {es : List Expr} {nm : Str}
def setSh (i : Nat) (t : Ty α) (ρ : Env) (x : α) : Env := ρ.set i (some (.sh t x))
theorem xg_name {i : Nat} {t : Ty α} (hN : X.N.Nodup) (hi : X.N[i]? = some nm) (hx : Loc X.env.scope nm) (hf : X.fn nm = true ∨ X.env.scope.names.lookup nm = some .local := by first | exact .inl rfl | exact .inr rfl | assumption) :
    XG X (.Name nm pos) t [i] (setSh i t) := fun b ρ x hk => pg_imp (pg_name hN hi hx hf) fun v σ H Q ⟨G, I, r, q⟩ => q _ (I.set_sh i r) fun vs h => wipe_in (h i (by simp))
theorem xgs_nil : XGs X [] aNil [] (fun ρ _ => ρ) := fun b ρ x hk => pgs_imp pgs_nil fun v σ H Q ⟨G, I, r, q⟩ => ⟨r, q σ I fun _ _ => rfl⟩
theorem xgs_cons {t : Ty α} {ts : AT τ} {js ks : List Nat} {f : Env → α → Env} {g : Env → τ → Env} (h1 : XG X e t js f) (h2 : XGs X es ts ks g)
    (hs : (assignEach (e :: es) X.env).map (·.2) = assign e X.env :: (assignEach es X.env).map (·.2) := by rfl) : XGs X (e :: es) (aCons t ts) (js ++ ks) (fun ρ x => g (f ρ x.1) x.2) := fun b ρ x hk =>
  pgs_imp (pgs_cons (h1 b ρ x.1 hk) (h2 b (f ρ x.1) x.2 hk) hs) fun v σ H Q ⟨G, I, ⟨v1, r, e, r1, r2⟩, q⟩ => ⟨v1, r, e, G, I, r1, fun σ1 I1 w1 => ⟨G, I1, r2, fun σ2 I2 w2 => q σ2 I2 fun vs h => by
    rw [w2 vs fun j hj => h j (List.mem_append_right _ hj), w1 vs fun j hj => h j (List.mem_append_left _ hj)]⟩⟩
theorem xg_tup {ts : AT τ} {js : List Nat} {f : Env → τ → Env} {k n : Nat} (hc : X.calm = true) (h : XGs X es ts js f) (hz : ∀ (b : Bs) (G : Hp) vs x, ts.rel b G vs x → vs.length = n)
    (hn : (assignEach es X.env).length = n := by rfl) (hst : (assignEach es X.env).findIdx? (·.1) = none := by rfl) : XG X (.Tuple es k pos) (tT ts) js f := fun b ρ x hk =>
  pg_imp (pg_tup hc (h b ρ x hk) hn hst) fun v σ H Q ⟨G, I, ⟨a, vs, e, s, r⟩, q⟩ => ⟨a, vs, e, by
    rw [← hk.K]
    exact seqT I.gh s, hz _ _ _ _ r, G, I, r, q⟩
end

/-! ### flows -/
inductive Fl (ν κ δ : Type) where
  | nx (s : ν) | bk (s : κ) | ct (s : κ) | rt (y : δ)
def EndS (b : Bs) (eN : ν → Env) (eB : κ → Env) (rk : Kd δ) (m : R (Fl ν κ δ)) (D : Ends) : Prop := match m with
  | .ok (.nx s) => ∀ σ' G' H', EnvOk b G' H' σ' (eN s) → D.nx σ' H'
  | .ok (.bk s) => ∀ σ' G' H', EnvOk b G' H' σ' (eB s) → D.bk σ' H'
  | .ok (.ct s) => ∀ σ' G' H', EnvOk b G' H' σ' (eB s) → D.ct σ' H'
  | .ok (.rt y) => ∀ v G' H', Grow b.G0 b.B G' H' → rk.rel b b.B G' H' v y → D.rt v H'
  | .err c => ∀ H', Sm b.B H' → b.er c H'
  | .bad => False
def tS (b : Bs) (ρ : Env) (eN : ν → Env) (eB : κ → Env) (rk : Kd δ) (m : R (Fl ν κ δ)) : TS := fun D σ H => (∃ G, EnvOk b G H σ ρ) ∧ EndS b eN eB rk m D
def XS (X : Cx) (ρ : Env) (st : List Stmt) (eN : ν → Env) (eB : κ → Env) (rk : Kd δ) (m : R (Fl ν κ δ)) : Prop := ∀ b : Bs, BOk X b → PSs X st (tS b ρ eN eB rk m)
def outS (b : Bs) (eN : ν → Env) (eB : κ → Env) (rk : Kd δ) (D : Ends) : Out b (Fl ν κ δ) where
  W m G H := EndS b eN eB rk m D ∧ Sm b.B H
  shift g h := ⟨h.1, h.2.trans g.h⟩
  err h := fun H' s => h.1 H' (h.2.trans s)
  bad h := h.1
theorem EnvOk.base {b : Bs} {G H : Hp} {σ : St} {ρ : Env} (I : EnvOk b G H σ ρ) : Grow b.G0 b.B G H := ⟨I.g0, I.bh, I.gh, I.nw, fun _ => I.tb, fun _ => I.nt⟩
section
variable {X : Cx} {ρ ρ' : Env} {e : Expr} {st : Stmt} {rest body : List Stmt} {pos p2 : Pos} {nm : Str} {i : Nat} {eN : ν → Env} {eB : κ → Env} {rk : Kd δ} {ma : R α} {k : α → R (Fl ν κ δ)} {m : R (Fl ν κ δ)}

theorem xs_wk (w : Wk ρ ρ') (h : XS X ρ' rest eN eB rk m) : XS X ρ rest eN eB rk m := fun b hk => pss_imp (h b hk) fun D σ H ⟨⟨G, I⟩, q⟩ => ⟨⟨G, I.wk w⟩, q⟩
theorem xs_freeze {t : Ty α} {xs : List α} (i : Nat) (hs : ρ[i]? = some (some (.ol t xs))) (h : XS X (ρ.set i (some (.sh (tListN t) xs))) rest eN eB rk m) : XS X ρ rest eN eB rk m := fun b hk => pss_imp (h b hk) fun D σ H ⟨⟨G, I⟩, q⟩ => ⟨I.freeze hs, q⟩
theorem xs_nil {s : ν} (w : Wk ρ (eN s)) : XS X ρ [] eN eB rk (.ok (.nx s)) := fun b hk => pss_imp pss_nil fun D σ H ⟨⟨G, I⟩, q⟩ => q σ G H (I.wk w)
theorem xs_brk {s : κ} (w : Wk ρ (eB s)) : XS X ρ [.Break pos] eN eB rk (.ok (.bk s)) := fun b hk => pss_imp (pss_one ps_break) fun D σ H ⟨⟨G, I⟩, q⟩ => q σ G H (I.wk w)
theorem xs_cont {s : κ} (w : Wk ρ (eB s)) : XS X ρ [.Continue pos] eN eB rk (.ok (.ct s)) := fun b hk => pss_imp (pss_one ps_continue) fun D σ H ⟨⟨G, I⟩, q⟩ => q σ G H (I.wk w)
/-- x = e -/
theorem xs_set {t : Ty α} (hN : X.N.Nodup) (hi : X.N[i]? = some nm) (hx : Loc X.env.scope nm) (he : XO X ρ e (kE t) ma) (h : ∀ x, XS X (ρ.set i (some (.sh t x))) rest eN eB rk (k x))
    (hs : swapsWith e (some (.Name nm p2)) pos.line X.env = pure false := by rfl) (hf : X.fn nm = true ∨ X.env.scope.names.lookup nm = some .local := by first | exact .inl rfl | exact .inr rfl | assumption) :
    XS X ρ (.Assign [.Name nm p2] e pos :: rest) eN eB rk (ma.bind k) := fun b hk => pss_imp (pss_cons (ps_set hN hi hx (he b hk) hs hf) (pss_ex fun x => h x b hk)) fun D σ H ⟨⟨G, I⟩, q⟩ =>
  ⟨G, I, seqO (outS b eN eB rk D) ⟨q, I.bh⟩ fun x v G1 H1 g1 r1 w1 => ⟨x, ⟨G1, (I.grow g1).set_sh i r1⟩, w1.1⟩⟩
/-- x = [..]: a list of one's own -/
theorem xs_setF {t : Ty α} {ml : R (List α)} {k : List α → R (Fl ν κ δ)} (hN : X.N.Nodup) (hi : X.N[i]? = some nm) (hx : Loc X.env.scope nm) (he : XO X ρ e (kF t) ml) (h : ∀ xs, XS X (ρ.set i (some (.ol t xs))) rest eN eB rk (k xs))
    (hs : swapsWith e (some (.Name nm p2)) pos.line X.env = pure false := by rfl) (hf : X.fn nm = true ∨ X.env.scope.names.lookup nm = some .local := by first | exact .inl rfl | exact .inr rfl | assumption) :
    XS X ρ (.Assign [.Name nm p2] e pos :: rest) eN eB rk (ml.bind k) := fun b hk => pss_imp (pss_cons (ps_set hN hi hx (he b hk) hs hf) (pss_ex fun x => h x b hk)) fun D σ H ⟨⟨G, I⟩, q⟩ =>
  ⟨G, I, seqO (outS b eN eB rk D) ⟨q, I.bh⟩ fun xs v G1 H1 g1 ⟨a, vs, e1, h0, h1, h2, h3⟩ w1 => ⟨xs, ⟨G1, by
    rw [e1]
    exact (I.grow g1).set_ol i h1 (I.bh.freeN h0) h2 h3 fun j s hj e o => I.own_ne h0 j s e o⟩, w1.1⟩⟩
/-- a, b = e -/
theorem xs_unpack {t : Ty α} {js : List Nat} {f : Env → α → Env} {tg : Expr} (he : XO X ρ e (kE t) ma) (hg : XG X tg t js f) (h : ∀ x, XS X (f ρ x) rest eN eB rk (k x))
    (hs : swapsWithSole [tg] e pos.line X.env = pure false := by rfl) (hw : swappedStores [tg] e X.env = pure none := by rfl) (h1 : (assignEach [tg] X.env).map (·.2) = [assign tg X.env] := by rfl) :
    XS X ρ (.Assign [tg] e pos :: rest) eN eB rk (ma.bind k) := fun b hk => pss_imp (pss_cons (ps_asg (he b hk) (pg_ex fun x => hg b ρ x hk) hs hw h1) (pss_ex fun x => h x b hk)) fun D σ H ⟨⟨G, I⟩, q⟩ =>
  ⟨G, I, seqO (outS b eN eB rk D) ⟨q, I.bh⟩ fun x v G1 H1 g1 r1 w1 => ⟨x, G1, I.grow g1, r1, fun σ' I' _ => ⟨x, ⟨G1, I'⟩, w1.1⟩⟩⟩
/-- return e -/
theorem xs_ret {m : R δ} (he : XO X ρ e rk m) : XS X ρ (.Return (some e) pos :: rest) eN eB rk (m.bind fun y => .ok (.rt y)) := fun b hk => pss_imp (pss_cons (ps_ret (he b hk)) (pss_never)) fun D σ H ⟨⟨G, I⟩, q⟩ =>
  ⟨G, I, seqO (outS b eN eB rk D) ⟨q, I.bh⟩ fun y v G1 H1 g1 r1 w1 => w1.1 v G1 H1 (I.grow g1).base (rk.back I.bh r1)⟩
/-- x.append(e), x a list of one's own -/
def appR (xs : List α) (x : α) : R (List α) := (guardR (decide (xs.length < sizeLine))).bind fun _ => .ok (xs ++ [x])
theorem EnvOk.upd_ol {b : Bs} {G H : Hp} {σ : L2.St} {t : Ty α} {xs ys : List α} {a : Addr} {us : List V} (I : EnvOk b G H σ ρ) (h : ρ[i]? = some (some (.ol t xs))) (hv : σ[i]? = some (some (.ref a))) (r : Paired (t.rel b G) us ys) :
    EnvOk b G (upd H a (.lst us)) σ (ρ.set i (some (.ol t ys))) := by
  obtain ⟨v, hv', a', vs, e, h1, h2, h3, h4⟩ := I.sl i _ h
  rw [hv] at hv'
  cases hv'
  cases e
  have hi : i < ρ.length := (List.getElem?_eq_some_iff.mp h).1
  have old : ∀ (j : Nat) (s : SV), (ρ.set i (some (.ol t ys)))[j]? = some (some s) → ∃ s', ρ[j]? = some (some s') ∧ s'.own = s.own := fun j s q => by
    by_cases hj : i = j
    · subst hj
      rw [List.getElem?_set_self hi] at q
      cases q
      exact ⟨_, h, rfl⟩
    · rw [List.getElem?_set_ne hj] at q
      exact ⟨s, q, rfl⟩
  refine ⟨Same.mut I.gh h1, I.bh.mut h2, I.g0, I.nw, fun j s q => ?_, fun j k s s' w hjk e1 e2 o1 o2 => ?_, by simp [I.ln], tabs_updL I.tb h3, I.nt⟩
  · by_cases hj : i = j
    · subst hj
      rw [List.getElem?_set_self hi] at q
      cases q
      exact ⟨_, hv, a, us, rfl, h1, h2, upd_same, r⟩
    · rw [List.getElem?_set_ne hj] at q
      obtain ⟨w, w1, w2⟩ := I.sl j s q
      refine ⟨w, w1, ?_⟩
      cases s with
      | sh u x => exact w2
      | ol u zs =>
        obtain ⟨c, ws, rfl, z1, z2, z3, z4⟩ := w2
        have hc : c ≠ a := fun z => I.ds i j _ _ _ hj h q rfl rfl hv (by rw [w1, z])
        exact ⟨c, ws, rfl, z1, z2, by rw [upd_ne hc]; exact z3, z4⟩
      | ow W x =>
        obtain ⟨c, o, rfl, z1, z2, z3, z4⟩ := w2
        have hc : c ≠ a := fun z => I.ds i j _ _ _ hj h q rfl rfl hv (by rw [w1, z])
        exact ⟨c, o, rfl, z1, z2, by rw [upd_ne hc]; exact z3, z4⟩
      | ck u x => exact w2
  · obtain ⟨s1, q1, p1⟩ := old j s e1
    obtain ⟨s2, q2, p2⟩ := old k s' e2
    exact I.ds j k s1 s2 w hjk q1 q2 (p1.trans o1) (p2.trans o2)
theorem EnvOk.ref {b : Bs} {G H : Hp} {σ : L2.St} {t : Ty α} {xs : List α} (I : EnvOk b G H σ ρ) (h : ρ[i]? = some (some (.ol t xs))) : ∃ a vs, σ[i]? = some (some (.ref a)) ∧ H a = some (.lst vs) ∧ G a = none ∧ ntb b.B a = none ∧ Paired (t.rel b G) vs xs := by
  obtain ⟨v, hv, a, vs, rfl, h1, h2, h3, h4⟩ := I.sl i _ h
  exact ⟨a, vs, hv, h3, h1, h2, h4⟩
theorem xs_append {t : Ty α} {xs : List α} {k : List α → R (Fl ν κ δ)} {p3 p4 : Pos} (i : Nat) (hl : ρ[i]? = some (some (.ol t xs))) (hN : X.N[i]? = some nm) (hv : Vis X.env.scope nm) (he : XO X ρ e (kE t) ma) (h : ∀ ys, XS X (ρ.set i (some (.ol t ys))) rest eN eB rk (k ys))
    (hd : (nm == ("__debug__" : Str)) = false := by decide) (hcd : (nm == ("__classdict__" : Str)) = false := by decide)
    (hbase : attributeBase (.Name nm p2) "append" X.env (eval (.Name nm p2) X.env) = eval (.Name nm p2) X.env := by rfl)
    (hfew : ((backTo p4 (starEach [e] X.env)).all (fun x => !x.1) && (backToKw p4 (keywordEach [] X.env)).all (fun x => x.1.isSome)
      && decide ([e].length + ([] : List Keyword).length + (if ([] : List Keyword).isEmpty then 0 else 1) < 30)) = true := by rfl)
    (hline : (p3.endLine == p4.line) = true := by rfl) (hs : starEach [e] X.env = (false, eval e X.env) :: starEach [] X.env := by rfl) (hplain : (backTo p4 (starEach [] X.env)).any (·.1) = false := by rfl)
    (hsw : swapsWith (.Call (.Attribute (.Name nm p2) "append" p3) [e] [] p4) none pos.line X.env = pure false := by rfl) :
    XS X ρ (.Expr (.Call (.Attribute (.Name nm p2) "append" p3) [e] [] p4) pos :: rest) eN eB rk (ma.bind fun x => (appR xs x).bind k) := fun b hk =>
  pss_imp (pss_cons (ps_expr (pe_bm PySem.F.plainAttrs_list PySem.F.slot_list_append PySem.F.type_list_append mt_append (pe_var hN hv hd hcd) (pa_cons (he b hk) pa_nil hs) hbase hfew hline hs hplain) hsw) (pss_ex fun x => h x b hk)) fun D σ H ⟨⟨G, I⟩, q⟩ => by
    obtain ⟨a, vs, hv', hH, hG, hB, hp⟩ := I.ref hl
    refine ⟨.ref a, hv', .inl ⟨rfl, vs, .inl (.inl hH)⟩, G, I, seqO (outS b eN eB rk D) ⟨q, I.bh⟩ fun x v G1 H1 g1 r1 w1 => ?_⟩
    have I1 := I.grow g1
    by_cases hz : xs.length < sizeLine
    · have w2 : EndS b eN eB rk (k (xs ++ [x])) D := by
        have := w1.1
        unfold appR at this
        rw [decide_eq_true hz] at this
        exact this
      refine ⟨a, vs, v, rfl, rfl, g1.h.l hH, by
        rw [plen hp]
        exact hz, xs ++ [x], ⟨G1, I1.upd_ol hl hv' (papp (pmap hp fun _ _ => t.mono g1.g) (.cons r1 .nil))⟩, w2⟩
    · have := w1.1
      unfold appR at this
      rw [decide_eq_false hz] at this
      exact this.elim
/-- x[i] = e, x a list of one's own -/
def setR (xs : List α) (i : Int) (x : α) : R (List α) := match ixN xs.length i with
  | some j => .ok (xs.set j x)
  | none => .bad
theorem xs_setitem {t : Ty α} {xs : List α} {k : List α → R (Fl ν κ δ)} {ie : Expr} {mi : R Int} {p3 : Pos} (i : Nat) (hl : ρ[i]? = some (some (.ol t xs))) (hN : X.N[i]? = some nm) (hv : Vis X.env.scope nm) (hi : XO X ρ ie (kE tInt) mi) (he : XO X ρ e (kE t) ma) (h : ∀ ys, XS X (ρ.set i (some (.ol t ys))) rest eN eB rk (k ys))
    (hd : (nm == ("__debug__" : Str)) = false := by decide) (hcd : (nm == ("__classdict__" : Str)) = false := by decide)
    (ha : ∀ v, assign (.Subscript (.Name nm p2) ie p3) X.env v = (do
      let ov ← holding [v] (eval (.Name nm p2) X.env)
      let iv ← holding [v, ov] (eval ie X.env)
      standAt p3
      holding [v, ov, iv] (setItem ov iv v)
      release [v, ov, iv] []) := by intro _; rfl)
    (hs : swapsWithSole [.Subscript (.Name nm p2) ie p3] e pos.line X.env = pure false := by rfl) (hw : swappedStores [.Subscript (.Name nm p2) ie p3] e X.env = pure none := by rfl) (h1 : (assignEach [.Subscript (.Name nm p2) ie p3] X.env).map (·.2) = [assign (.Subscript (.Name nm p2) ie p3) X.env] := by rfl) :
    XS X ρ (.Assign [.Subscript (.Name nm p2) ie p3] e pos :: rest) eN eB rk (ma.bind fun x => mi.bind fun j => (setR xs j x).bind k) := fun b hk =>
  pss_imp (pss_cons (ps_asg (he b hk) (pg_sub (pe_var hN hv hd hcd) (hi b hk) set_list ha) hs hw h1) (pss_ex fun x => h x b hk)) fun D σ H ⟨⟨G, I⟩, q⟩ => by
    obtain ⟨a, vs, hv', hH, hG, hB, hp⟩ := I.ref hl
    refine ⟨G, I, seqO (outS b eN eB rk D) ⟨q, I.bh⟩ fun x v G1 H1 g1 r1 w1 => ⟨.ref a, hv', G1, I.grow g1, seqO (outS b eN eB rk D) w1 fun j w G2 H2 g2 r2 w2 => ?_⟩⟩
    have I2 := (I.grow g1).grow g2
    have w3 := w2.1
    unfold setR at w3
    cases e1 : ixN xs.length j with
    | none =>
      rw [e1] at w3
      exact w3.elim
    | some n =>
      rw [e1] at w3
      exact ⟨a, vs, j, n, rfl, r2, g2.h.l (g1.h.l hH), by
        rw [plen hp]
        exact e1, xs.set n x, ⟨G2, I2.upd_ol hl hv' (pset (t.mono g2.g r1) n (pmap hp fun _ _ => t.mono (g1.g.trans g2.g)))⟩, w3⟩
/-- x op= e, ints -/
theorem xs_aug {f : Int → Int → Int} {op : Operator} {x0 : Int} {mi : R Int} {k : Int → R (Fl ν κ δ)} (ho : PIp X op (ipI f)) (hN : X.N.Nodup) (hi : X.N[i]? = some nm) (hx : Loc X.env.scope nm) (hl : ρ[i]? = some (some (.sh tInt x0))) (he : XO X ρ e (kE tInt) mi)
    (h : ∀ x, XS X (ρ.set i (some (.sh tInt x))) rest eN eB rk (k x)) (hf : X.fn nm = true ∨ X.env.scope.names.lookup nm = some .local := by first | exact .inl rfl | exact .inr rfl | assumption) :
    XS X ρ (.AugAssign (.Name nm p2) op e pos :: rest) eN eB rk (mi.bind fun y => k (f x0 y)) := fun b hk =>
  pss_imp (pss_cons (ps_aug hN hi hx (he b hk) ho hf) (pss_ex fun x => h x b hk)) fun D σ H ⟨⟨G, I⟩, q⟩ => by
    obtain ⟨v, hv, r⟩ := I.sl i _ hl
    exact ⟨v, hv, G, I, seqO (outS b eN eB rk D) ⟨q, I.bh⟩ fun y w G1 H1 g1 r1 w1 => ⟨x0, y, r, r1, f x0 y, ⟨G1, (I.grow g1).set_sh (t := tInt) i rfl⟩, w1.1⟩⟩
/-- if c: .. (else: ..), then the rest -/
def joinR {ν' : Type} (k : ν' → R (Fl ν κ δ)) : Fl ν' κ δ → R (Fl ν κ δ)
  | .nx s => k s
  | .bk s => .ok (.bk s)
  | .ct s => .ok (.ct s)
  | .rt y => .ok (.rt y)
def upFl : Fl Empty κ δ → R (Fl ν κ δ)
  | .nx s => s.elim
  | .bk s => .ok (.bk s)
  | .ct s => .ok (.ct s)
  | .rt y => .ok (.rt y)
theorem EndS.join {b : Bs} {ν' : Type} {eJ : ν' → Env} {m : R (Fl ν' κ δ)} {k : ν' → R (Fl ν κ δ)} {D : Ends} {Nx : L2.St → Hp → Prop} (h : EndS b eN eB rk (m.bind (joinR k)) D) (hn : ∀ s, m = .ok (.nx s) → EndS b eN eB rk (k s) D → ∀ σ' G' H', EnvOk b G' H' σ' (eJ s) → Nx σ' H') :
    EndS b eJ eB rk m { D with nx := Nx } := by
  cases m with
  | ok f =>
    cases f with
    | nx s => exact fun σ' G' H' I => hn s rfl h σ' G' H' I
    | bk s => exact h
    | ct s => exact h
    | rt y => exact h
  | err c => exact h
  | bad => exact h
theorem xs_if {ν' : Type} {c : Expr} {th el : List Stmt} {mc : R Bool} {eJ : ν' → Env} {m1 m2 : R (Fl ν' κ δ)} {k : ν' → R (Fl ν κ δ)} (eJ' : ν' → Env) (he : eJ' = eJ) (hc : XT X ρ c mc) (h1 : XS X ρ th eJ eB rk m1) (h2 : XS X ρ el eJ eB rk m2) (h : ∀ s, XS X (eJ s) rest eN eB rk (k s)) :
    XS X ρ (.If c th el pos :: rest) eN eB rk (mc.bind fun t => (if t = true then m1 else m2).bind (joinR k)) := fun b hk =>
  pss_imp (pss_cons (ps_if (hc b hk) (h1 b hk) (h2 b hk)) (pss_ex fun s => h s b hk)) fun D σ H ⟨⟨G, I⟩, q⟩ => ⟨G, I, seqB (outS b eN eB rk D) ⟨q, I.bh⟩ fun t G1 H1 g1 w1 => by
    have w2 := w1.1
    cases t with
    | true => exact ⟨⟨G1, I.grow g1⟩, w2.join fun s _ w3 σ' G' H' I' => ⟨s, ⟨G', I'⟩, w3⟩⟩
    | false => exact ⟨⟨G1, I.grow g1⟩, w2.join fun s _ w3 σ' G' H' I' => ⟨s, ⟨G', I'⟩, w3⟩⟩⟩
/-- if c: .. that doesn't go on; then the rest -/
def eNo : Empty → Env := fun s => s.elim
theorem xs_ifR {c : Expr} {th : List Stmt} {mc : R Bool} {m1 : R (Fl Empty κ δ)} (hc : XT X ρ c mc) (h1 : XS X ρ th eNo eB rk m1) (h : XS X ρ rest eN eB rk m) :
    XS X ρ (.If c th [] pos :: rest) eN eB rk (mc.bind fun t => if t = true then m1.bind upFl else m) := fun b hk =>
  pss_imp (pss_cons (ps_if (hc b hk) (h1 b hk) pss_nil) (h b hk)) fun D σ H ⟨⟨G, I⟩, q⟩ => ⟨G, I, seqB (outS b eN eB rk D) ⟨q, I.bh⟩ fun t G1 H1 g1 w1 => by
    have w2 := w1.1
    cases t with
    | true =>
      refine ⟨⟨G1, I.grow g1⟩, ?_⟩
      revert w2
      show EndS b eN eB rk (m1.bind upFl) D → _
      cases m1 with
      | ok f =>
        cases f with
        | nx s => exact s.elim
        | bk s => exact id
        | ct s => exact id
        | rt y => exact id
      | err c => exact id
      | bad => exact id
    | false => exact ⟨⟨G1, I.grow g1⟩, w2⟩⟩
/-- if c: .. else: .., neither goes on -/
theorem xs_ifE {c : Expr} {th el : List Stmt} {mc : R Bool} {m1 m2 : R (Fl ν κ δ)} (hc : XT X ρ c mc) (h1 : XS X ρ th eN eB rk m1) (h2 : XS X ρ el eN eB rk m2) :
    XS X ρ [.If c th el pos] eN eB rk (mc.bind fun t => if t = true then m1 else m2) := fun b hk =>
  pss_imp (pss_one (ps_if (hc b hk) (h1 b hk) (h2 b hk))) fun D σ H ⟨⟨G, I⟩, q⟩ => ⟨G, I, seqB (outS b eN eB rk D) ⟨q, I.bh⟩ fun t G1 H1 g1 w1 => by
    have w2 := w1.1
    cases t with
    | true => exact ⟨⟨G1, I.grow g1⟩, w2⟩
    | false => exact ⟨⟨G1, I.grow g1⟩, w2⟩⟩

/-! ### while -/
/-- the next turn, or out of the loop -/
def loopR {σ : Type} (again : σ → R (σ ⊕ δ)) : Fl σ σ δ → R (σ ⊕ δ)
  | .nx s => again s
  | .ct s => again s
  | .bk s => .ok (.inl s)
  | .rt y => .ok (.inr y)
def contR {σ : Type} (k : σ → R (Fl ν κ δ)) : σ ⊕ δ → R (Fl ν κ δ)
  | .inl s => k s
  | .inr y => .ok (.rt y)
def whileR {σ : Type} (c : σ → R Bool) (step : σ → R (Fl σ σ δ)) : Nat → σ → R (σ ⊕ δ)
  | 0, _ => .bad
  | n + 1, s => (c s).bind fun t => if t = true then (step s).bind (loopR (whileR c step n)) else .ok (.inl s)
def EndL {σ : Type} (b : Bs) (eL : σ → Env) (rk : Kd δ) (m : R (σ ⊕ δ)) (D : Ends) : Prop := match m with
  | .ok (.inl s) => ∀ σ' G' H', EnvOk b G' H' σ' (eL s) → D.nx σ' H'
  | .ok (.inr y) => ∀ v G' H', Grow b.G0 b.B G' H' → rk.rel b b.B G' H' v y → D.rt v H'
  | .err c => ∀ H', Sm b.B H' → b.er c H'
  | .bad => False
theorem EndL.of {σ : Type} {b : Bs} {eL : σ → Env} {r : R (σ ⊕ δ)} {k : σ → R (Fl ν κ δ)} {D : Ends} {Nx : L2.St → Hp → Prop} (h : EndS b eN eB rk (r.bind (contR k)) D) (hn : ∀ s, EndS b eN eB rk (k s) D → ∀ σ' G' H', EnvOk b G' H' σ' (eL s) → Nx σ' H') : EndL b eL rk r { D with nx := Nx } := by
  cases r with
  | ok f =>
    cases f with
    | inl s => exact fun σ' G' H' I => hn s h σ' G' H' I
    | inr y => exact h
  | err c => exact h
  | bad => exact h
def outL {σ : Type} (b : Bs) (eL : σ → Env) (rk : Kd δ) (D : Ends) : Out b (σ ⊕ δ) where
  W m G H := EndL b eL rk m D ∧ Sm b.B H
  shift g h := ⟨h.1, h.2.trans g.h⟩
  err h := fun H' s => h.1 H' (h.2.trans s)
  bad h := h.1
theorem EndL.turn {σ : Type} {b : Bs} {eL : σ → Env} {m : R (Fl σ σ δ)} {again : σ → R (σ ⊕ δ)} {D : Ends} {N : L2.St → Hp → Prop} (h : EndL b eL rk (m.bind (loopR again)) D) (hn : ∀ s, EndL b eL rk (again s) D → ∀ σ' G' H', EnvOk b G' H' σ' (eL s) → N σ' H') :
    EndS b eL eL rk m { D with nx := N, ct := N, bk := D.nx } := by
  cases m with
  | ok f =>
    cases f with
    | nx s => exact fun σ' G' H' I => hn s h σ' G' H' I
    | ct s => exact fun σ' G' H' I => hn s h σ' G' H' I
    | bk s => exact h
    | rt y => exact h
  | err c => exact h
  | bad => exact h
theorem xs_while {σ : Type} {c : Expr} {mc : σ → R Bool} {step : σ → R (Fl σ σ δ)} {k : σ → R (Fl ν κ δ)} {s0 : σ} (n : Nat) (eL : σ → Env) (hp : PassesOwn (model X.prog X.w) X.A X.env X.xe) (w : Wk ρ (eL s0)) (hc : ∀ s, XT X (eL s) c (mc s)) (hb : ∀ s, XS X (eL s) body eL eL rk (step s)) (h : ∀ s, XS X (eL s) rest eN eB rk (k s)) :
    XS X ρ (.While c body [] pos :: rest) eN eB rk ((whileR mc step n s0).bind (contR k)) := fun b hk =>
  pss_imp (pss_cons (ps_while hp (pt_ex fun s => hc s b hk) (pss_ex fun s => hb s b hk)) (pss_ex fun s => h s b hk)) fun D σ' H ⟨⟨G, I⟩, q⟩ => by
    refine ⟨fun m σ' H => ∃ s G, EnvOk b G H σ' (eL s) ∧ EndL b eL rk (whileR mc step m s) { D with nx := fun σ H => ∃ s, tS b (eL s) eN eB rk (k s) D σ H }, ⟨n, s0, G, I.wk w, EndL.of q fun s w3 σ' G' H' I' => ⟨s, ⟨G', I'⟩, w3⟩⟩, ?_⟩
    rintro m σ1 H1 ⟨s, G1, I1, q1⟩
    cases m with
    | zero => exact q1.elim
    | succ m =>
      refine ⟨s, G1, I1, seqB (outL b eL rk _) ⟨q1, I1.bh⟩ fun t G2 H2 g2 w2 => ?_⟩
      cases t with
      | true =>
        rw [if_pos rfl]
        refine ⟨fun σ' H' => ∃ s G', EnvOk b G' H' σ' (eL s) ∧ EndL b eL rk (whileR mc step m s) { D with nx := fun σ H => ∃ s, tS b (eL s) eN eB rk (k s) D σ H }, fun σ' H' ⟨s', G', I', q'⟩ => ⟨m, Nat.lt_succ_self m, s', G', I', q'⟩, s, ⟨G2, I1.grow g2⟩, ?_⟩
        exact EndL.turn (show EndL b eL rk ((step s).bind (loopR (whileR mc step m))) _ from w2.1) fun s' q' σ' G' H' I' => ⟨s', G', I', q'⟩
      | false =>
        rw [if_neg Bool.false_ne_true]
        exact w2.1 σ1 G2 H2 (I1.grow g2)
end
end Tr
end
section
set_option maxRecDepth 100000
set_option maxHeartbeats 2000000
/-! Tr6: what is walked, for, comprehensions, calls of defs, defs. -/
namespace Tr
open PySem L2
variable [hasT : HasT] {α β γ δ τ ν κ : Type}

/-- J yields the items xs, as long as S and G' stand -/
def ItOk (b : Bs) (t : Ty α) (J : It) (xs : List α) (S G' : Hp) : Prop := ∀ (G2 H2 : Hp), Sm S H2 → Same G' G2 → Same G2 H2 → ∀ i : Nat,
  (∀ x, xs[i]? = some x → J.go i H2 ∧ ∀ v H3, J.yld i H2 v H3 → ∃ G3, Grow G2 H2 G3 H3 ∧ t.rel b G3 v x) ∧ (xs.length = i → J.stop i H2)
def tI (b : Bs) (ρ : Env) (t : Ty α) (m : R (List α)) : TI := fun σ H Rr => ∃ G, EnvOk b G H σ ρ ∧ match m with
  | .ok xs => ∀ J G' H', Grow G H G' H' → ItOk b t J xs G' G' → Rr J H'
  | .err c => ∀ H', Sm H H' → b.er c H'
  | .bad => False
/-- .. for a comprehension: as long as the heap stands -/
def tIc (b : Bs) (ρ : Env) (t : Ty α) (m : R (List α)) : TI := fun σ H Rr => ∃ G, EnvOk b G H σ ρ ∧ match m with
  | .ok xs => ∀ J G' H', Grow G H G' H' → ItOk b t J xs H' G' → xs.length ≤ sizeLine → Rr J H'
  | .err c => ∀ H', Sm H H' → b.er c H'
  | .bad => False
def XI (X : Cx) (ρ : Env) (tg iter : Expr) (t : Ty α) (m : R (List α)) : Prop := ∀ b : Bs, BOk X b → PI X tg iter (tI b ρ t m)
def XIc (X : Cx) (ρ : Env) (tg iter : Expr) (t : Ty α) (m : R (List α)) : Prop := ∀ b : Bs, BOk X b → PI X tg iter (tIc b ρ t m)
theorem pi_imp {X : Cx} {tg e : Expr} {t t' : TI} (h : PI X tg e t) (k : ∀ σ H Q, t' σ H Q → t σ H Q) : PI X tg e t' := ⟨fun pins s σ H Q I w => h.run pins s σ H Q I (k _ _ _ w)⟩
theorem it_list {K : PySem.W.Frag} {b : Bs} {t : Ty α} {xs : List α} {vs : List V} {a : Addr} {S G' : Hp} (hs : S a = some (.lst vs)) (p : Paired (t.rel b G') vs xs) : ItOk b t (Itl K a) xs S G' := fun G2 H2 h1 h2 h3 i =>
  have q : SqL K H2 a vs := .inl (.inl (h1.l hs))
  ⟨fun x hx => by
    obtain ⟨v, hv, r⟩ := pget p hx
    exact ⟨⟨vs, v, q, hv⟩, fun w H3 ⟨e, f⟩ => by
      have e2 : w = v := Option.some.inj ((f vs q).symm.trans hv)
      rw [e, e2]
      exact ⟨G2, Grow.refl h3, t.mono h2 r⟩⟩, fun e => ⟨vs, q, by rw [plen p, e]; exact Nat.le_refl _⟩⟩
def rangeL (lo : Int) (n : Nat) : List Int := (List.range n).map fun i : Nat => lo + (i : Int)
theorem rangeL_get {lo : Int} {n i : Nat} {x : Int} (h : (rangeL lo n)[i]? = some x) : i < n ∧ x = lo + (i : Int) := by
  unfold rangeL at h
  rw [List.getElem?_map] at h
  by_cases hi : i < n
  · rw [List.getElem?_range hi] at h
    exact ⟨hi, (Option.some.inj h).symm⟩
  · rw [List.getElem?_eq_none (by simpa using hi)] at h
    exact absurd h (by simp)
theorem rangeL_len (lo : Int) (n : Nat) : (rangeL lo n).length = n := by simp [rangeL]
theorem it_range {b : Bs} {lo : Int} {n : Nat} {S G' : Hp} : ItOk b tInt (Itr lo n) (rangeL lo n) S G' := fun G2 H2 h1 h2 h3 i =>
  ⟨fun x hx => by
    obtain ⟨hi, e⟩ := rangeL_get hx
    exact ⟨hi, fun w H3 ⟨e1, e2⟩ => by
      rw [e1]
      exact ⟨G2, Grow.refl h3, by
        rw [e]
        exact e2⟩⟩, fun e => by
    rw [rangeL_len] at e
    exact Nat.le_of_eq e⟩
def rangeC (lo c : Int) (n : Nat) : List Int := (List.range n).map fun i : Nat => lo + (i : Int) * c
theorem it_rangeC {b : Bs} {lo c : Int} {n : Nat} {S G' : Hp} : ItOk b tInt (Itc lo c n) (rangeC lo c n) S G' := fun G2 H2 h1 h2 h3 i =>
  ⟨fun x hx => by
    unfold rangeC at hx
    rw [List.getElem?_map] at hx
    by_cases hi : i < n
    · rw [List.getElem?_range hi] at hx
      exact ⟨hi, fun w H3 ⟨e1, e2⟩ => by
        rw [e1]
        exact ⟨G2, Grow.refl h3, by
          rw [← Option.some.inj hx]
          exact e2⟩⟩
    · rw [List.getElem?_eq_none (by simpa using hi)] at hx
      exact absurd hx (by simp), fun e => by
    rw [show (rangeC lo c n).length = n by simp [rangeC]] at e
    exact Nat.le_of_eq e⟩
/-- no list is longer than the line -/
def Hsz (H : Hp) : Prop := ∀ a xs, H a = some (.lst xs) → xs.length ≤ sizeLine
theorem hsz_of {X : Cx} {pins : List (Addr × Obj)} {σ : L2.St} {H : Hp} {s : Shared} (I : Inv X pins σ H s) : Hsz H := fun a xs h => (I.hok a _ h).1
theorem pe_sz {X : Cx} {e : Expr} {t : TE} (h : PE X e t) : PE X e (fun σ H Q => t σ H fun v H' => Hsz H' → Q v H') := ⟨fun pins s σ H Q I w => thn (h.run pins s σ H _ I w) fun u s1 ⟨v, H1, I1, r, q⟩ => ⟨v, H1, I1, r, q (hsz_of I1)⟩⟩
theorem pa_sz {X : Cx} {e : List Expr} {t : TA} (h : PA X e t) : PA X e (fun σ H Q => t σ H fun v H' => Hsz H' → Q v H') := ⟨fun ps pins s σ H Q I w => thn (h.run ps pins s σ H _ I w) fun u s1 ⟨v, H1, I1, r, q⟩ => ⟨v, H1, I1, r, q (hsz_of I1)⟩⟩
def outI (b : Bs) (t : Ty α) (Rr : It → Hp → Prop) : Out b (List α) where
  W m G H := match m with
    | .ok xs => ∀ J G' H', Grow G H G' H' → ItOk b t J xs G' G' → Rr J H'
    | .err c => ∀ H', Sm H H' → b.er c H'
    | .bad => False
  shift {m} _ _ _ _ g h := match m, h with
    | .ok _, h => fun J G' H' g' r => h J G' H' (g.trans g') r
    | .err _, h => fun H' s => h H' (g.h.trans s)
  err h := h
  bad h := h
def outIc (b : Bs) (t : Ty α) (Rr : It → Hp → Prop) : Out b (List α) where
  W m G H := match m with
    | .ok xs => ∀ J G' H', Grow G H G' H' → ItOk b t J xs H' G' → xs.length ≤ sizeLine → Rr J H'
    | .err c => ∀ H', Sm H H' → b.er c H'
    | .bad => False
  shift {m} _ _ _ _ g h := match m, h with
    | .ok _, h => fun J G' H' g' r => h J G' H' (g.trans g') r
    | .err _, h => fun H' s => h H' (g.h.trans s)
  err h := h
  bad h := h
section
variable {X : Cx} {ρ : Env} {tg e e2 e3 : Expr} {pos p tpos : Pos} {t : Ty α} {u : Ty β} {m : R (List α)} {n : R (List β)} {elts : List Expr} {kk : Nat} {mi mj mk : R Int}
theorem xi_list (h : XO X ρ e (kE (tList t)) m) : XI X ρ tg e t m := fun b hk => pi_imp (pi_list (h b hk)) fun σ H Rr ⟨G, I, q⟩ => ⟨G, I, by
  cases m with
  | ok xs => exact fun v G' H' g ⟨a, vs, e, h, p⟩ => ⟨a, e, ⟨vs, .inl (.inl (g.gh _ _ h))⟩, q _ G' H' g (it_list h p)⟩
  | err c => exact q
  | bad => exact q⟩
/-- over a list made on the way -/
theorem xi_listF (h : XO X ρ e (kF t) m) : XI X ρ tg e t m := xi_list (xo_ci (cv_E (sub_N Sub.rfl)) (xe_F h))
theorem xi_listN (h : XO X ρ e (kE (tListN t)) m) : XI X ρ tg e t m := xi_list (xo_ci (cv_E (sub_N Sub.rfl)) h)
theorem xic_list (h : XO X ρ e (kL t) m) : XIc X ρ tg e t m := fun b hk => pi_imp (pi_list (pe_sz (h b hk))) fun σ H Rr ⟨G, I, q⟩ => ⟨G, I, by
  cases m with
  | ok xs => exact fun v G' H' g ⟨a, vs, e, h, p⟩ hz => ⟨a, e, ⟨vs, .inl (.inl h)⟩, q _ G' H' g (it_list h p) (by
      rw [← plen p]
      exact hz a vs h)⟩
  | err c => exact q
  | bad => exact q⟩
/-! ranges -/
def rng1R (j : Int) : R (List Int) := (guardR (decide (-(2 ^ 62) ≤ j) && decide (j < 2 ^ 62))).bind fun _ => .ok (rangeL 0 j.toNat)
def rng2R (i j : Int) : R (List Int) := (guardR (decide (-(2 ^ 62) ≤ i) && decide (i < 2 ^ 62) && decide (-(2 ^ 62) ≤ j) && decide (j < 2 ^ 62))).bind fun _ => .ok (rangeL i (j - i).toNat)
def szLR (xs : List α) : R (List α) := (szR xs.length).bind fun _ => .ok xs
theorem guard_ok {β : Type} {b : Bs} {c : Bool} {k : R β} (O : Out b β) {G H : Hp} (h : O.W ((guardR c).bind fun _ => k) G H) : c = true ∧ O.W k G H := by
  cases c with
  | true => exact ⟨rfl, h⟩
  | false => exact (O.bad h).elim
theorem xi_range1 (hg : Gl X "range") (hm : X.mg "range" = none) (h : XO X ρ e (kE tInt) mi) (hs : starEach [e] X.env = [(false, eval e X.env)] := by rfl) : XI X ρ tg (.Call (.Name "range" p) [e] [] pos) tInt (mi.bind rng1R) := fun b hk =>
  pi_imp (pi_range1 hg hm (pa_cons (h b hk) pa_nil hs) hs) fun σ H Rr ⟨G, I, q⟩ => ⟨G, I, seqO (outI b tInt Rr) (by exact q) fun j v G1 H1 g1 r1 w1 => by
    obtain ⟨c, w2⟩ := guard_ok (outI b tInt Rr) w1
    simp only [Bool.and_eq_true, decide_eq_true_eq] at c
    exact ⟨j, by rw [show v = V.int j from r1], c.1, c.2, w2 _ G1 H1 (Grow.refl g1.gh) it_range⟩⟩
theorem xic_range1 (hg : Gl X "range") (hm : X.mg "range" = none) (h : XO X ρ e (kE tInt) mi) (hs : starEach [e] X.env = [(false, eval e X.env)] := by rfl) : XIc X ρ tg (.Call (.Name "range" p) [e] [] pos) tInt (mi.bind fun j => (rng1R j).bind szLR) := fun b hk =>
  pi_imp (pi_range1 hg hm (pa_cons (h b hk) pa_nil hs) hs) fun σ H Rr ⟨G, I, q⟩ => ⟨G, I, seqO (outIc b tInt Rr) (by exact q) fun j v G1 H1 g1 r1 w1 => by
    unfold rng1R at w1
    rw [R.bind_assoc] at w1
    obtain ⟨c, w2⟩ := guard_ok (outIc b tInt Rr) w1
    obtain ⟨c2, w3⟩ := guard_ok (outIc b tInt Rr) w2
    simp only [Bool.and_eq_true, decide_eq_true_eq] at c
    exact ⟨j, by rw [show v = V.int j from r1], c.1, c.2, w3 _ G1 H1 (Grow.refl g1.gh) it_range (of_decide_eq_true c2)⟩⟩
theorem xi_range2 (hg : Gl X "range") (hm : X.mg "range" = none) (h : XO X ρ e (kE tInt) mi) (h2 : XO X ρ e2 (kE tInt) mj) (hs : starEach [e, e2] X.env = [(false, eval e X.env), (false, eval e2 X.env)] := by rfl) (hs2 : starEach [e2] X.env = [(false, eval e2 X.env)] := by rfl) :
    XI X ρ tg (.Call (.Name "range" p) [e, e2] [] pos) tInt (mi.bind fun i => mj.bind fun j => rng2R i j) := fun b hk =>
  pi_imp (pi_range2 hg hm (pa_cons (h b hk) (pa_cons (h2 b hk) pa_nil hs2) (by rw [hs, hs2])) hs hs2) fun σ H Rr ⟨G, I, q⟩ => ⟨G, I, seqO (outI b tInt Rr) (by exact q) fun i v G1 H1 g1 r1 w1 => ⟨G1, I.grow g1, seqO (outI b tInt Rr) w1 fun j w G2 H2 g2 r2 w2 => by
    obtain ⟨c, w3⟩ := guard_ok (outI b tInt Rr) w2
    simp only [Bool.and_eq_true, decide_eq_true_eq] at c
    exact ⟨i, j, by rw [show v = V.int i from r1, show w = V.int j from r2], ⟨c.1.1.1, c.1.1.2, c.1.2, c.2⟩, w3 _ G2 H2 (Grow.refl g2.gh) it_range⟩⟩⟩
theorem xic_range2 (hg : Gl X "range") (hm : X.mg "range" = none) (h : XO X ρ e (kE tInt) mi) (h2 : XO X ρ e2 (kE tInt) mj) (hs : starEach [e, e2] X.env = [(false, eval e X.env), (false, eval e2 X.env)] := by rfl) (hs2 : starEach [e2] X.env = [(false, eval e2 X.env)] := by rfl) :
    XIc X ρ tg (.Call (.Name "range" p) [e, e2] [] pos) tInt (mi.bind fun i => mj.bind fun j => (rng2R i j).bind szLR) := fun b hk =>
  pi_imp (pi_range2 hg hm (pa_cons (h b hk) (pa_cons (h2 b hk) pa_nil hs2) (by rw [hs, hs2])) hs hs2) fun σ H Rr ⟨G, I, q⟩ => ⟨G, I, seqO (outIc b tInt Rr) (by exact q) fun i v G1 H1 g1 r1 w1 => ⟨G1, I.grow g1, seqO (outIc b tInt Rr) w1 fun j w G2 H2 g2 r2 w2 => by
    unfold rng2R at w2
    rw [R.bind_assoc] at w2
    obtain ⟨c, w3⟩ := guard_ok (outIc b tInt Rr) w2
    obtain ⟨c2, w4⟩ := guard_ok (outIc b tInt Rr) w3
    simp only [Bool.and_eq_true, decide_eq_true_eq] at c
    exact ⟨i, j, by rw [show v = V.int i from r1, show w = V.int j from r2], ⟨c.1.1.1, c.1.1.2, c.1.2, c.2⟩, w4 _ G2 H2 (Grow.refl g2.gh) it_range (of_decide_eq_true c2)⟩⟩⟩
/-- range(a, b, c) -/
def rng3Ok (i j c : Int) : Bool := decide (c ≠ 0) && decide (c.natAbs < 1073741824) && Builtin.Range.small i j c && decide (0 ≤ Builtin.Range.rangeSize i j c)
def rng3R (i j c : Int) : R (List Int) := (guardR (rng3Ok i j c)).bind fun _ => .ok (rangeC i c (Builtin.Range.rangeSize i j c).toNat)
theorem rgC_of {i j c : Int} (h : rng3Ok i j c = true) : RgC i j c (Builtin.Range.rangeSize i j c).toNat := by
  simp only [rng3Ok, Bool.and_eq_true, decide_eq_true_eq] at h
  exact ⟨h.1.1.1, h.1.1.2, h.1.2, by have := h.2; omega⟩
theorem xi_range3 (hg : Gl X "range") (hm : X.mg "range" = none) (h : XO X ρ e (kE tInt) mi) (h2 : XO X ρ e2 (kE tInt) mj) (h3 : XO X ρ e3 (kE tInt) mk) (hs : starEach [e, e2, e3] X.env = (false, eval e X.env) :: starEach [e2, e3] X.env := by rfl) (hs2 : starEach [e2, e3] X.env = (false, eval e2 X.env) :: starEach [e3] X.env := by rfl) (hs3 : starEach [e3] X.env = (false, eval e3 X.env) :: starEach [] X.env := by rfl) (hpl : (backTo pos (starEach [e2, e3] X.env)).any (·.1) = false := by rfl) :
    XI X ρ tg (.Call (.Name "range" p) [e, e2, e3] [] pos) tInt (mi.bind fun i => mj.bind fun j => mk.bind fun k => rng3R i j k) := fun b hk =>
  pi_imp (pi_range3 hg hm (pa_cons (h b hk) (pa_cons (h2 b hk) (pa_cons (h3 b hk) pa_nil hs3) hs2) hs) hs hpl) fun σ H Rr ⟨G, I, q⟩ => ⟨G, I, seqO (outI b tInt Rr) (by exact q) fun i v G1 H1 g1 r1 w1 => ⟨G1, I.grow g1, seqO (outI b tInt Rr) w1 fun j w G2 H2 g2 r2 w2 => ⟨G2, (I.grow g1).grow g2, seqO (outI b tInt Rr) w2 fun k z G3 H3 g3 r3 w3 => by
    obtain ⟨c, w4⟩ := guard_ok (outI b tInt Rr) w3
    exact ⟨i, j, k, _, by rw [show v = V.int i from r1, show w = V.int j from r2, show z = V.int k from r3], rgC_of c, w4 _ G3 H3 (Grow.refl g3.gh) it_rangeC⟩⟩⟩⟩
theorem xic_range3 (hg : Gl X "range") (hm : X.mg "range" = none) (h : XO X ρ e (kE tInt) mi) (h2 : XO X ρ e2 (kE tInt) mj) (h3 : XO X ρ e3 (kE tInt) mk) (hs : starEach [e, e2, e3] X.env = (false, eval e X.env) :: starEach [e2, e3] X.env := by rfl) (hs2 : starEach [e2, e3] X.env = (false, eval e2 X.env) :: starEach [e3] X.env := by rfl) (hs3 : starEach [e3] X.env = (false, eval e3 X.env) :: starEach [] X.env := by rfl) (hpl : (backTo pos (starEach [e2, e3] X.env)).any (·.1) = false := by rfl) :
    XIc X ρ tg (.Call (.Name "range" p) [e, e2, e3] [] pos) tInt (mi.bind fun i => mj.bind fun j => mk.bind fun k => (rng3R i j k).bind szLR) := fun b hk =>
  pi_imp (pi_range3 hg hm (pa_cons (h b hk) (pa_cons (h2 b hk) (pa_cons (h3 b hk) pa_nil hs3) hs2) hs) hs hpl) fun σ H Rr ⟨G, I, q⟩ => ⟨G, I, seqO (outIc b tInt Rr) (by exact q) fun i v G1 H1 g1 r1 w1 => ⟨G1, I.grow g1, seqO (outIc b tInt Rr) w1 fun j w G2 H2 g2 r2 w2 => ⟨G2, (I.grow g1).grow g2, seqO (outIc b tInt Rr) w2 fun k z G3 H3 g3 r3 w3 => by
    unfold rng3R at w3
    rw [R.bind_assoc] at w3
    obtain ⟨c, w4⟩ := guard_ok (outIc b tInt Rr) w3
    obtain ⟨c2, w5⟩ := guard_ok (outIc b tInt Rr) w4
    exact ⟨i, j, k, _, by rw [show v = V.int i from r1, show w = V.int j from r2, show z = V.int k from r3], rgC_of c, w5 _ G3 H3 (Grow.refl g3.gh) it_rangeC (of_decide_eq_true c2)⟩⟩⟩⟩
/-! enumerate, zip -/
def enumL (xs : List α) : List (Int × α × Unit) := (List.range xs.length).zipWith (fun (i : Nat) x => ((i : Int), x, ())) xs
theorem enumL_get {xs : List α} {i : Nat} {y : Int × α × Unit} (h : (enumL xs)[i]? = some y) : ∃ x, xs[i]? = some x ∧ y = ((i : Int), x, ()) := by
  unfold enumL at h
  rw [List.getElem?_zipWith] at h
  cases hx : xs[i]? with
  | none =>
    rw [hx] at h
    cases hr : (List.range xs.length)[i]? <;> rw [hr] at h <;> cases h
  | some x =>
    have hi : i < xs.length := (List.getElem?_eq_some_iff.mp hx).1
    rw [hx, List.getElem?_range hi] at h
    exact ⟨x, rfl, (Option.some.inj h).symm⟩
theorem enumL_len (xs : List α) : (enumL xs).length = xs.length := by simp [enumL]
theorem it_enum {K : PySem.W.Frag} {b : Bs} {t : Ty α} {xs : List α} {vs : List V} {a : Addr} {S G' : Hp} (hs : S a = some (.lst vs)) (p : Paired (t.rel b G') vs xs) : ItOk b (tT (aCons tInt (aCons t aNil))) (Ite K a) (enumL xs) S G' := fun G2 H2 h1 h2 h3 i =>
  have q : SqL K H2 a vs := .inl (.inl (h1.l hs))
  ⟨fun y hy => by
    obtain ⟨x, hx, e⟩ := enumL_get hy
    obtain ⟨v, hv, r⟩ := pget p hx
    exact ⟨⟨vs, v, q, hv⟩, fun w H3 ⟨T, z, e1, hT, e2, f⟩ => by
      have ez : z = v := Option.some.inj ((f vs q).symm.trans hv)
      rw [e2, e1, e, ez]
      exact ⟨_, Grow.newF h3 hT, T, _, rfl, .inl (.inl upd_same), .int i, _, rfl, rfl, v, [], rfl, t.mono (h2.trans (same_upd (h3.free hT))) r, rfl⟩⟩, fun e => ⟨vs, q, by
    rw [enumL_len] at e
    rw [plen p, e]
    exact Nat.le_refl _⟩⟩
def zipL (xs : List α) (ys : List β) : List (α × β × Unit) := xs.zipWith (fun x y => (x, y, ())) ys
theorem zipL_get {xs : List α} {ys : List β} {i : Nat} {z : α × β × Unit} (h : (zipL xs ys)[i]? = some z) : ∃ x y, xs[i]? = some x ∧ ys[i]? = some y ∧ z = (x, y, ()) := by
  unfold zipL at h
  rw [List.getElem?_zipWith] at h
  cases hx : xs[i]? with
  | none => rw [hx] at h; cases h
  | some x =>
    cases hy : ys[i]? with
    | none => rw [hx, hy] at h; cases h
    | some y =>
      rw [hx, hy] at h
      exact ⟨x, y, rfl, rfl, (Option.some.inj h).symm⟩
theorem it_zip {K : PySem.W.Frag} {b : Bs} {t : Ty α} {u : Ty β} {xs : List α} {ys : List β} {vs us : List V} {a c : Addr} {S G' : Hp} (hs : S a = some (.lst vs)) (p : Paired (t.rel b G') vs xs) (hs2 : S c = some (.lst us)) (p2 : Paired (u.rel b G') us ys) :
    ItOk b (tT (aCons t (aCons u aNil))) (Itz K a c) (zipL xs ys) S G' := fun G2 H2 h1 h2 h3 i =>
  have q : SqL K H2 a vs := .inl (.inl (h1.l hs))
  have q2 : SqL K H2 c us := .inl (.inl (h1.l hs2))
  ⟨fun y hy => by
    obtain ⟨x, y', hx, hy', e⟩ := zipL_get hy
    obtain ⟨v, hv, r⟩ := pget p hx
    obtain ⟨v2, hv2, r2⟩ := pget p2 hy'
    exact ⟨⟨vs, us, v, v2, q, q2, hv, hv2⟩, fun w H3 ⟨T, z, z2, e1, hT, e2, f, f2⟩ => by
      have ez : z = v := Option.some.inj ((f vs q).symm.trans hv)
      have ez2 : z2 = v2 := Option.some.inj ((f2 us q2).symm.trans hv2)
      rw [e2, e1, e, ez, ez2]
      exact ⟨_, Grow.newF h3 hT, T, _, rfl, .inl (.inl upd_same), v, _, rfl, t.mono (h2.trans (same_upd (h3.free hT))) r, v2, [], rfl, u.mono (h2.trans (same_upd (h3.free hT))) r2, rfl⟩⟩, fun e => ⟨vs, us, q, q2, by
    have e3 : (zipL xs ys).length = min xs.length ys.length := by simp [zipL]
    rw [e3] at e
    rw [plen p, plen p2]
    omega⟩⟩
theorem xi_enum (hg : Gl X "enumerate") (hm : X.mg "enumerate" = none) (h : XO X ρ e (kE (tList t)) m) (hs : starEach [e] X.env = [(false, eval e X.env)] := by rfl) :
    XI X ρ (.Tuple elts kk tpos) (.Call (.Name "enumerate" p) [e] [] pos) (tT (aCons tInt (aCons t aNil))) (m.bind fun xs => .ok (enumL xs)) := fun b hk =>
  pi_imp (pi_enum hg hm (pa_cons (h b hk) pa_nil hs) hs) fun σ H Rr ⟨G, I, q⟩ => ⟨G, I, seqO (k := fun xs => .ok (enumL xs)) (outI b (tT (aCons tInt (aCons t aNil))) Rr) (by exact q) fun xs v G1 H1 g1 ⟨a, vs, e, h, p⟩ w1 =>
    ⟨a, vs, by rw [e], .inl (.inl (g1.gh _ _ h)), w1 _ G1 H1 (Grow.refl g1.gh) (it_enum h p)⟩⟩
theorem xic_enum (hg : Gl X "enumerate") (hm : X.mg "enumerate" = none) (h : XO X ρ e (kL t) m) (hs : starEach [e] X.env = [(false, eval e X.env)] := by rfl) :
    XIc X ρ (.Tuple elts kk tpos) (.Call (.Name "enumerate" p) [e] [] pos) (tT (aCons tInt (aCons t aNil))) (m.bind fun xs => .ok (enumL xs)) := fun b hk =>
  pi_imp (pi_enum hg hm (pa_sz (pa_cons (h b hk) pa_nil hs)) hs) fun σ H Rr ⟨G, I, q⟩ => ⟨G, I, seqO (k := fun xs => .ok (enumL xs)) (outIc b (tT (aCons tInt (aCons t aNil))) Rr) (by exact q) fun xs v G1 H1 g1 ⟨a, vs, e, h, p⟩ w1 hz =>
    ⟨a, vs, by rw [e], .inl (.inl h), w1 _ G1 H1 (Grow.refl g1.gh) (it_enum h p) (by
      rw [enumL_len, ← plen p]
      exact hz a vs h)⟩⟩
theorem xi_zip (hg : Gl X "zip") (hm : X.mg "zip" = none) (h : XO X ρ e (kE (tList t)) m) (h2 : XO X ρ e2 (kE (tList u)) n) (hs : starEach [e, e2] X.env = (false, eval e X.env) :: starEach [e2] X.env := by rfl) (hs2 : starEach [e2] X.env = (false, eval e2 X.env) :: starEach [] X.env := by rfl) (hpl : (backTo pos (starEach [e2] X.env)).any (·.1) = false := by rfl) :
    XI X ρ (.Tuple elts kk tpos) (.Call (.Name "zip" p) [e, e2] [] pos) (tT (aCons t (aCons u aNil))) (m.bind fun xs => n.bind fun ys => .ok (zipL xs ys)) := fun b hk =>
  pi_imp (pi_zip hg hm (pa_cons (h b hk) (pa_cons (h2 b hk) pa_nil hs2) hs) hs hpl) fun σ H Rr ⟨G, I, q⟩ => ⟨G, I, seqO (outI b (tT (aCons t (aCons u aNil))) Rr) (by exact q) fun xs v G1 H1 g1 r1 w1 => ⟨G1, I.grow g1, seqO (outI b (tT (aCons t (aCons u aNil))) Rr) w1 fun ys w G2 H2 g2 ⟨c, us, e2, h2, p2⟩ w2 => by
    obtain ⟨a, vs, e1, h1, p1⟩ := (tList t).mono g2.g r1
    exact ⟨a, c, vs, us, by rw [e1, e2], .inl (.inl (g2.gh _ _ h1)), .inl (.inl (g2.gh _ _ h2)), w2 _ G2 H2 (Grow.refl g2.gh) (it_zip h1 p1 h2 p2)⟩⟩⟩
theorem xic_zip (hg : Gl X "zip") (hm : X.mg "zip" = none) (h : XO X ρ e (kL t) m) (h2 : XO X ρ e2 (kL u) n) (hs : starEach [e, e2] X.env = (false, eval e X.env) :: starEach [e2] X.env := by rfl) (hs2 : starEach [e2] X.env = (false, eval e2 X.env) :: starEach [] X.env := by rfl) (hpl : (backTo pos (starEach [e2] X.env)).any (·.1) = false := by rfl) :
    XIc X ρ (.Tuple elts kk tpos) (.Call (.Name "zip" p) [e, e2] [] pos) (tT (aCons t (aCons u aNil))) (m.bind fun xs => n.bind fun ys => .ok (zipL xs ys)) := fun b hk =>
  pi_imp (pi_zip hg hm (pa_sz (pa_cons (h b hk) (pa_cons (h2 b hk) pa_nil hs2) hs)) hs hpl) fun σ H Rr ⟨G, I, q⟩ => ⟨G, I, seqO (outIc b (tT (aCons t (aCons u aNil))) Rr) (by exact q) fun xs v G1 H1 g1 r1 w1 => ⟨G1, I.grow g1, seqO (outIc b (tT (aCons t (aCons u aNil))) Rr) w1 fun ys w G2 H2 g2 ⟨c, us, e2, h2, p2⟩ w2 hz => by
    obtain ⟨a, vs, e1, h1, p1⟩ := (kL t).mono (b := b) (H0 := H) g2 r1
    exact ⟨a, c, vs, us, by rw [e1, e2], .inl (.inl h1), .inl (.inl h2), w2 _ G2 H2 (Grow.refl g2.gh) (it_zip h1 p1 h2 p2) (by
      have e3 : (zipL xs ys).length = min xs.length ys.length := by simp [zipL]
      have := hz a vs h1
      rw [e3, ← plen p1]
      omega)⟩⟩⟩
end

/-! ### for -/
def forR {σ : Type} (step : σ → α → R (Fl σ σ δ)) : List α → σ → R (σ ⊕ δ)
  | [], s => .ok (.inl s)
  | x :: xs, s => (step s x).bind (loopR (forR step xs))
def noCk (ρ : Env) : Bool := ρ.all fun o => match o with
  | some s => s.noCk
  | none => true
theorem noCk_at {ρ : Env} (h : noCk ρ = true) {i : Nat} {s : SV} (e : ρ[i]? = some (some s)) : s.noCk = true := by
  have h1 := List.all_eq_true.mp h _ (List.mem_of_getElem? e)
  exact h1
theorem EnvOk.rebase {b b' : Bs} {G H : Hp} {σ : L2.St} {ρ : Env} (nc : noCk ρ = true) (hK : b.K = b'.K) (hB : b.B = b'.B) (h0 : Same b'.G0 G) (hn : ∀ a, ntb b'.B a ≠ none → b'.G0 a = none → G a = none) (I : EnvOk b G H σ ρ) : EnvOk b' G H σ ρ :=
  ⟨I.gh, hB ▸ I.bh, h0, hn, fun i s e => by
    obtain ⟨v, h1, h2⟩ := I.sl i s e
    refine ⟨v, h1, ?_⟩
    cases s with
    | sh t x => exact t.up hK (fun a h => hB ▸ h) h2
    | ol t xs =>
      obtain ⟨a, vs, e1, q1, q2, q3, q4⟩ := h2
      exact ⟨a, vs, e1, q1, hB ▸ q2, q3, pmap q4 fun _ _ => t.up hK (fun a h => hB ▸ h)⟩
    | ow W x =>
      obtain ⟨a, o, e1, q1, q2, q3, q4⟩ := h2
      exact ⟨a, o, e1, q1, hB ▸ q2, q3, W.up hK (fun a h => hB ▸ h) q4⟩
    | ck t x => exact absurd (noCk_at nc e) Bool.false_ne_true, I.ds, I.ln, I.tb, I.nt⟩
section
variable {X : Cx} {ρ : Env} {tg iter : Expr} {body rest : List Stmt} {pos : Pos} {t : Ty α} {mx : R (List α)} {js : List Nat} {f : Env → α → Env} {eN : ν → Env} {eB : κ → Env} {rk : Kd δ} {σ : Type}
theorem xs_for {step : σ → α → R (Fl σ σ δ)} {k : σ → R (Fl ν κ δ)} {s0 : σ} (eL : σ → Env) (hp : PassesOwn (model X.prog X.w) X.A X.env X.xe) (hc : X.calm = true) (hi : XI X ρ tg iter t mx) (hg : XG X tg t js f) (w : Wk ρ (eL s0)) (hb : ∀ s x, XS X (f (eL s) x) body eL eL rk (step s x)) (h : ∀ s, XS X (eL s) rest eN eB rk (k s)) (nc : ∀ s, noCk (eL s) = true := by intro _; rfl)
    (hs : ∀ x, foldedSetIterable iter X.env x = pure x := by intro _; rfl) :
    XS X ρ (.For tg iter body [] pos :: rest) eN eB rk (mx.bind fun xs => (forR step xs s0).bind (contR k)) := fun b hk =>
  pss_imp (pss_cons (ps_for hp hc (hi b hk) (pg_ex fun (i : { b' : Bs // b'.K = b.K } × σ × α) => hg i.1.1 (eL i.2.1) i.2.2 ⟨i.1.2.trans hk.K⟩) (pss_ex fun (i : { b' : Bs // b'.K = b.K } × σ × α) => hb i.2.1 i.2.2 i.1.1 ⟨i.1.2.trans hk.K⟩) hs) (pss_ex fun s => h s b hk)) fun D σ' H ⟨⟨G, I⟩, q⟩ => by
    refine ⟨G, I, ?_⟩
    cases mx with
    | err c => exact fun H' s => q H' (I.bh.trans s)
    | bad => exact q
    | ok xs =>
      intro J Gs Hs gs it
      have Is := I.grow gs
      let D' : Ends := { D with nx := fun σ H => ∃ s, tS b (eL s) eN eB rk (k s) D σ H }
      let b' : Bs := { b with G0 := Gs }
      have toB : ∀ {G H : Hp} {σ' : L2.St} {s : σ}, EnvOk b' G H σ' (eL s) → EnvOk b G H σ' (eL s) := fun {_ _ _ s} I' =>
        EnvOk.rebase (b := b') (b' := b) (nc s) rfl rfl (Is.g0.trans I'.g0) (fun a h1 h2 => I'.nw a h1 (Is.nw a h1 h2)) I'
      refine ⟨fun i m σ H => m = xs.length - i ∧ i ≤ xs.length ∧ ∃ s G, EnvOk b' G H σ (eL s) ∧ EndL b eL rk (forR step (xs.drop i) s) D', ⟨xs.length, by omega, Nat.zero_le _, s0, Gs, ?_, ?_⟩, ?_⟩
      · exact EnvOk.rebase (b := b) (b' := b') (nc s0) rfl rfl (Same.refl _) (fun a h1 h2 => h2) (Is.wk w)
      · rw [List.drop_zero]
        exact EndL.of q fun s w3 σ' G' H' I' => ⟨s, ⟨G', I'⟩, w3⟩
      · rintro i m σ1 H1 ⟨rfl, hi, s, G1, I1, q1⟩
        by_cases hlt : i < xs.length
        · have hx : xs[i]? = some xs[i] := List.getElem?_eq_getElem hlt
          obtain ⟨go, yl⟩ := (it G1 H1 (sm_of (I1.g0.trans I1.gh)) I1.g0 I1.gh i).1 _ hx
          refine .inr ⟨go, fun σ' H' => ∃ s' G', EnvOk b' G' H' σ' (eL s') ∧ EndL b eL rk (forR step (xs.drop (i + 1)) s') D', fun σ' H' ⟨s', G', I', q'⟩ => ⟨xs.length - (i + 1), by omega, rfl, hlt, s', G', I', q'⟩, fun v H2 hy => ?_⟩
          obtain ⟨G2, g2, r2⟩ := yl v H2 hy
          have I2 := I1.grow g2
          refine ⟨(⟨b', rfl⟩, s, xs[i]), G2, I2, t.up (b := b) (b' := b') rfl (fun _ h => h) r2, fun σ2 I3 _ => ⟨(⟨b', rfl⟩, s, xs[i]), ⟨G2, I3⟩, ?_⟩⟩
          rw [List.drop_eq_getElem_cons hlt] at q1
          have q2 : EndL b eL rk ((step s xs[i]).bind (loopR (forR step (xs.drop (i + 1))))) D' := q1
          cases hm : step s xs[i] with
          | err c =>
            rw [hm] at q2
            exact q2
          | bad =>
            rw [hm] at q2
            exact q2
          | ok fl =>
            rw [hm] at q2
            cases fl with
            | nx s' => exact fun σ' G' H' I' => ⟨s', G', I', q2⟩
            | ct s' => exact fun σ' G' H' I' => ⟨s', G', I', q2⟩
            | bk s' => exact fun σ' G' H' I' => q2 σ' G' H' (toB I')
            | rt y => exact fun v G' H' g r => q2 v G' H' ⟨Is.g0.trans g.g, g.h, g.gh, fun a h1 h2 => g.n a h1 (Is.nw a h1 h2), g.tb, fun _ => g.nt Is.nt⟩ (rk.up (b := b') (b' := b) rfl (fun _ h => h) r)
        · have e : i = xs.length := by omega
          refine .inl ⟨(it G1 H1 (sm_of (I1.g0.trans I1.gh)) I1.g0 I1.gh i).2 e.symm, ?_⟩
          rw [List.drop_of_length_le (Nat.le_of_eq e.symm)] at q1
          exact q1 σ1 G1 H1 (toB I1)
end

/-! ### comprehensions -/
def compR (c : α → R Bool) (g : α → R β) : List α → R (List β)
  | [] => .ok []
  | x :: xs => (c x).bind fun t => if t = true then (g x).bind fun y => (compR c g xs).bind fun ys => .ok (y :: ys) else compR c g xs
def mapR (g : α → R β) : List α → R (List β)
  | [] => .ok []
  | x :: xs => (g x).bind fun y => (mapR g xs).bind fun ys => .ok (y :: ys)
theorem compR_true (g : α → R β) : ∀ xs : List α, compR (fun _ => .ok true) g xs = mapR g xs
  | [] => rfl
  | x :: xs => by
    show (g x).bind (fun y => (compR (fun _ => .ok true) g xs).bind fun ys => .ok (y :: ys)) = _
    rw [compR_true g xs]
    rfl
def wipeE (ρ : Env) : List Nat → Env
  | [] => ρ
  | v :: vs => (wipeE ρ vs).set v none
theorem EnvOk.unset {b : Bs} {G H : Hp} {σ : L2.St} {ρ : Env} (I : EnvOk b G H σ ρ) (v : Nat) : EnvOk b G H (σ.set v none) (ρ.set v none) := by
  have key : ∀ (j : Nat) (s : SV), (ρ.set v none)[j]? = some (some s) → v ≠ j ∧ ρ[j]? = some (some s) := fun j s e => by
    by_cases hj : v = j
    · subst hj
      by_cases hl : v < ρ.length
      · rw [List.getElem?_set_self hl] at e
        cases e
      · rw [List.getElem?_eq_none (by simpa using hl)] at e
        cases e
    · rw [List.getElem?_set_ne hj] at e
      exact ⟨hj, e⟩
  refine ⟨I.gh, I.bh, I.g0, I.nw, fun j s e => ?_, fun j k s s' w hjk e1 e2 o1 o2 => ?_, by simp [I.ln], I.tb, I.nt⟩
  · obtain ⟨hj, e⟩ := key j s e
    obtain ⟨w, h1, h2⟩ := I.sl j s e
    exact ⟨w, by rw [List.getElem?_set_ne hj]; exact h1, h2⟩
  · obtain ⟨hj, e1⟩ := key j s e1
    obtain ⟨hk, e2⟩ := key k s' e2
    rw [List.getElem?_set_ne hj, List.getElem?_set_ne hk]
    exact I.ds j k s s' w hjk e1 e2 o1 o2
theorem EnvOk.wipe {b : Bs} {G H : Hp} {σ : L2.St} {ρ : Env} (I : EnvOk b G H σ ρ) : ∀ vs : List Nat, EnvOk b G H (wipe σ vs) (wipeE ρ vs)
  | [] => I
  | v :: vs => (EnvOk.wipe I vs).unset v
theorem wipe_wipe (σ : L2.St) : ∀ vs ws : List Nat, (∀ v ∈ vs, v ∈ ws) → wipe (wipe σ vs) ws = wipe σ ws
  | [], _, _ => rfl
  | v :: vs, ws, h => by
    show wipe ((wipe σ vs).set v none) ws = _
    rw [wipe_in (h v List.mem_cons_self), wipe_wipe σ vs ws fun x hx => h x (List.mem_cons_of_mem _ hx)]
/-- an object that no slot bears is changed -/
theorem EnvOk.updHid {b : Bs} {G H : Hp} {σ : L2.St} {ρ : Env} {D : Addr} {o : HO} (I : EnvOk b G H σ ρ) (hG : G D = none) (hB : ntb b.B D = none) (hn : ∀ (j : Nat) (s : SV), ρ[j]? = some (some s) → s.own = true → σ[j]? ≠ some (some (.ref D))) (tb : LamX.Tabs hasT.T (upd H D o)) : EnvOk b G (upd H D o) σ ρ :=
  ⟨Same.mut I.gh hG, I.bh.mut hB, I.g0, I.nw, fun i s e => by
    obtain ⟨v, h1, h2⟩ := I.sl i s e
    refine ⟨v, h1, ?_⟩
    cases s with
    | sh t x => exact h2
    | ol t xs =>
      obtain ⟨c, ws, rfl, z1, z2, z3, z4⟩ := h2
      have hc : c ≠ D := fun z => hn i _ e rfl (by rw [h1, z])
      exact ⟨c, ws, rfl, z1, z2, by rw [upd_ne hc]; exact z3, z4⟩
    | ow W x =>
      obtain ⟨c, o, rfl, z1, z2, z3, z4⟩ := h2
      have hc : c ≠ D := fun z => hn i _ e rfl (by rw [h1, z])
      exact ⟨c, o, rfl, z1, z2, by rw [upd_ne hc]; exact z3, z4⟩
    | ck t x => exact h2, I.ds, I.ln, tb, I.nt⟩
theorem Grow.updHid {G H G' H' : Hp} {D : Addr} {o : HO} (g : Grow G H G' H') (hH : ntb H D = none) (hG : G' D = none) (tb : LamX.Tabs hasT.T H' → LamX.Tabs hasT.T (upd H' D o)) : Grow G H G' (upd H' D o) :=
  ⟨g.g, g.h.mut hH, Same.mut g.gh hG, g.n, fun t => tb (g.tb t), g.nt⟩
def XTs (X : Cx) (ρ : Env) (es : List Expr) (m : R Bool) : Prop := ∀ b : Bs, BOk X b → PTs X es (tTs b ρ m)
theorem pts_imp {X : Cx} {e : List Expr} {t t' : TT} (h : PTs X e t) (k : ∀ σ H Q, t' σ H Q → t σ H Q) : PTs X e t' := ⟨fun pins s σ H Q I w => h.run pins s σ H Q I (k _ _ _ w)⟩
theorem pts_ex {X : Cx} {e : List Expr} {ι : Sort _} {T : ι → TT} (h : ∀ i, PTs X e (T i)) : PTs X e (fun σ H Q => ∃ i, T i σ H Q) := ⟨fun pins s σ H Q I ⟨i, w⟩ => (h i).run pins s σ H Q I w⟩
theorem xts_nil {X : Cx} {ρ : Env} : XTs X ρ [] (.ok true) := fun b hk => pts_imp pts_nil fun σ H Q ⟨G, I, w⟩ => EndT.give (b := b) w I.gh
theorem xts_one {X : Cx} {ρ : Env} {c : Expr} {m : R Bool} (h : XT X ρ c m) : XTs X ρ [c] m := fun b hk => pts_one (h b hk)
section
variable {X : Cx} {ρ : Env} {elt tg iter : Expr} {ifs : List Expr} {scope : Scope} {own : List (Str × Nat)} {pos : Pos} {t : Ty α} {u : Ty β} {mx : R (List α)} {js : List Nat} {f : Env → α → Env} {mt : α → R Bool} {me : α → R β}
theorem lc_imp {b : Bs} (hj : ∀ j ∈ js, j ∈ own.map (·.2)) {σ : L2.St} {H : Hp} {Q : VK} (h : tO b ρ (kF u) (mx.bind fun xs => compR mt me xs) σ H Q) :
    tLc (tIc b ρ t mx) (fun v σ H Q => ∃ x, tG b (wipeE ρ (own.map (·.2))) t js f x v σ H Q) (fun σ H Q => ∃ x, tTs b (f (wipeE ρ (own.map (·.2))) x) (mt x) σ H Q) (fun σ H Q => ∃ x, tO b (f (wipeE ρ (own.map (·.2))) x) (kE u) (me x) σ H Q) (own.map (·.2)) σ H Q := by
  obtain ⟨G, I, q⟩ := h
  refine ⟨G, I, ?_⟩
  cases mx with
  | err c => exact q
  | bad => exact q
  | ok xs =>
    intro J G1 H1 g1 it hz D hD
    have q1 : EndO b (kF u) (compR mt me xs) H G H Q := q
    have hHD : ntb H D = none := g1.h.free hD
    have hBD : ntb b.B D = none := I.bh.freeN hHD
    have hn : ∀ (j : Nat) (s : SV), ρ[j]? = some (some s) → s.own = true → σ[j]? ≠ some (some (.ref D)) := fun j s e o => I.own_ne hHD j s e o
    have hG1 : G1 D = none := g1.gh.free hD
    refine ⟨fun i m H' => m = xs.length - i ∧ i ≤ xs.length ∧ ∃ (Gc : Hp) (acc : List V) (accT : List β), Grow G H Gc H' ∧ Same G1 Gc ∧ Sm H1 H' ∧ EnvOk b Gc H' σ ρ ∧ H' D = some (.lst acc) ∧ Gc D = none ∧ Paired (u.rel b Gc) acc accT ∧ acc.length ≤ i ∧
      EndO b (kF u) ((compR mt me (xs.drop i)).bind fun ys => .ok (accT ++ ys)) H G H Q, ⟨xs.length, by omega, Nat.zero_le _, G1, [], [], g1.updHid hHD hG1 (fun t => t.ext (same_upd hD)), Same.refl _, sm_upd hD, (I.grow g1).updHid hG1 hBD hn ((I.grow g1).tb.ext (same_upd hD)), upd_same, hG1, .nil, Nat.le_refl _, ?_⟩, ?_⟩
    · rw [List.drop_zero]
      rw [← R.bind_ok (compR mt me xs)] at q1
      exact q1
    · rintro i m H' ⟨rfl, hi, Gc, acc, accT, gc, sG, sH, Ic, hDc, hGc, hp, hl, qc⟩
      by_cases hlt : i < xs.length
      · have hx : xs[i]? = some xs[i] := List.getElem?_eq_getElem hlt
        obtain ⟨go, yl⟩ := (it Gc H' sH sG gc.gh i).1 _ hx
        refine .inr ⟨go, fun H'' => ∃ (Gc : Hp) (acc : List V) (accT : List β), Grow G H Gc H'' ∧ Same G1 Gc ∧ Sm H1 H'' ∧ EnvOk b Gc H'' σ ρ ∧ H'' D = some (.lst acc) ∧ Gc D = none ∧ Paired (u.rel b Gc) acc accT ∧ acc.length ≤ i + 1 ∧
          EndO b (kF u) ((compR mt me (xs.drop (i + 1))).bind fun ys => .ok (accT ++ ys)) H G H Q, fun H'' w => ⟨xs.length - (i + 1), by omega, rfl, hlt, w⟩, fun v H2 hy => ?_⟩
        obtain ⟨G2, g2, r2⟩ := yl v H2 hy
        refine ⟨xs[i], G2, (Ic.grow g2).wipe _, r2, fun σ2 I2 hw => ⟨by rw [hw _ hj, wipe_wipe _ _ _ fun v h => h], xs[i], G2, I2, ?_⟩⟩
        rw [List.drop_eq_getElem_cons hlt] at qc
        have qc' : EndO b (kF u) ((mt xs[i]).bind fun t => ((if t = true then (me xs[i]).bind fun y => (compR mt me (xs.drop (i + 1))).bind fun ys => .ok (y :: ys) else compR mt me (xs.drop (i + 1))) : R (List β)).bind fun ys => .ok (accT ++ ys)) H G H Q := by
          rw [← R.bind_assoc]
          exact qc
        cases hmt : mt xs[i] with
        | err c =>
          rw [hmt] at qc'
          exact fun H'' s => qc' H'' ((gc.trans g2).h.trans s)
        | bad =>
          rw [hmt] at qc'
          exact qc'
        | ok tb =>
          rw [hmt] at qc'
          intro G3 H3 g3
          have gc3 := (gc.trans g2).trans g3
          have g23 := g2.trans g3
          have I3 := (Ic.grow g2).grow g3
          have hD3 : H3 D = some (.lst acc) := g23.h.l hDc
          have hG3 : G3 D = none := g23.n D (by rw [nt_of hDc fun _ z => nomatch z]; exact fun z => nomatch z) hGc
          cases tb with
          | false =>
            rw [if_neg Bool.false_ne_true]
            exact ⟨G3, acc, accT, gc3, sG.trans g23.g, sH.trans g23.h, I3, hD3, hG3, pmap hp fun _ _ => u.mono g23.g, by omega, qc'⟩
          | true =>
            rw [if_pos rfl]
            refine ⟨xs[i], G3, I2.grow g3, ?_⟩
            have qd : EndO b (kF u) ((me xs[i]).bind fun y => (compR mt me (xs.drop (i + 1))).bind fun ys => .ok (accT ++ y :: ys)) H G H Q := by
              have e : ((me xs[i]).bind fun y => (compR mt me (xs.drop (i + 1))).bind fun ys => R.ok (y :: ys)).bind (fun ys => R.ok (accT ++ ys)) = (me xs[i]).bind fun y => (compR mt me (xs.drop (i + 1))).bind fun ys => .ok (accT ++ y :: ys) := by
                rw [R.bind_assoc]
                congr 1
                funext y
                rw [R.bind_assoc]
                rfl
              rw [← e]
              exact qc'
            cases hme : me xs[i] with
            | err c =>
              rw [hme] at qd
              exact fun H'' s => qd H'' (gc3.h.trans s)
            | bad =>
              rw [hme] at qd
              exact qd
            | ok y =>
              rw [hme] at qd
              intro yv G4 H4 g4 ry
              have g24 := g23.trans g4
              have hD4 : H4 D = some (.lst acc) := g4.h.l hD3
              have hG4 : G4 D = none := g4.n D (by rw [nt_of hD3 fun _ z => nomatch z]; exact fun z => nomatch z) hG3
              refine ⟨acc, hD4, by omega, G4, acc ++ [yv], accT ++ [y], (gc3.trans g4).updHid hHD hG4 (fun t => tabs_updL t hD4), sG.trans g24.g, (sH.trans g24.h).mut (ntn hD), (I3.grow g4).updHid hG4 hBD hn (tabs_updL (I3.grow g4).tb hD4), upd_same, hG4, papp (pmap hp fun _ _ => u.mono g24.g) (.cons ry .nil), by simp; omega, ?_⟩
              · have e : (fun ys => R.ok (accT ++ y :: ys) : List β → R (List β)) = fun ys => .ok (accT ++ [y] ++ ys) := by
                  funext ys
                  rw [List.append_assoc]
                  rfl
                rw [← e]
                exact qd
      · have e : i = xs.length := by omega
        refine .inl ⟨(it Gc H' sH sG gc.gh i).2 e.symm, ?_⟩
        rw [List.drop_of_length_le (Nat.le_of_eq e.symm)] at qc
        have q2 : EndO b (kF u) (.ok (accT ++ [])) H G H Q := qc
        rw [List.append_nil] at q2
        exact q2 (.ref D) Gc H' gc ⟨D, acc, rfl, hHD, hGc, hDc, hp⟩
theorem xf_lc (hc : X.calm = true) (hN : X.N.Nodup) (hi : XIc X ρ tg iter t mx) (ok : BlkOk X.N X.env.scope scope own) (hg : ∀ (s : Shared) (H : Hp) (C : Addr) (cl : List (Str × Addr)) (fp : List Addr), XG (X.blk s H scope (compEnvC scope cl C X.env) fp) tg t js f)
    (ht : ∀ (s : Shared) (H : Hp) (C : Addr) (cl : List (Str × Addr)) (fp : List Addr) x, XTs (X.blk s H scope (compEnvC scope cl C X.env) fp) (f (wipeE ρ (own.map (·.2))) x) ifs (mt x))
    (he : ∀ (s : Shared) (H : Hp) (C : Addr) (cl : List (Str × Addr)) (fp : List Addr) x, XO (X.blk s H scope (compEnvC scope cl C X.env) fp) (f (wipeE ρ (own.map (·.2))) x) elt (kE u) (me x))
    (hj : ∀ j ∈ js, j ∈ own.map (·.2) := by decide) (hs : ∀ x, foldedSetIterable iter X.env x = pure x := by intro _; rfl) :
    XO X ρ (.ListComp elt [⟨tg, iter, ifs, 0⟩] scope pos) (kF u) (mx.bind fun xs => compR mt me xs) := fun b hk =>
  pe_imp (pe_lc hc hN (hi b hk) ok (fun s H C cl fp => pg_ex fun x => hg s H C cl fp b (wipeE ρ (own.map (·.2))) x ⟨hk.K⟩) (fun s H C cl fp => pts_ex fun x => ht s H C cl fp x b ⟨hk.K⟩) (fun s H C cl fp => pe_ex fun x => he s H C cl fp x b ⟨hk.K⟩) hs) fun σ H Q h => lc_imp hj h
/-- .. without an if -/
theorem xf_lm (hc : X.calm = true) (hN : X.N.Nodup) (hi : XIc X ρ tg iter t mx) (ok : BlkOk X.N X.env.scope scope own) (hg : ∀ (s : Shared) (H : Hp) (C : Addr) (cl : List (Str × Addr)) (fp : List Addr), XG (X.blk s H scope (compEnvC scope cl C X.env) fp) tg t js f)
    (he : ∀ (s : Shared) (H : Hp) (C : Addr) (cl : List (Str × Addr)) (fp : List Addr) x, XO (X.blk s H scope (compEnvC scope cl C X.env) fp) (f (wipeE ρ (own.map (·.2))) x) elt (kE u) (me x))
    (hj : ∀ j ∈ js, j ∈ own.map (·.2) := by decide) (hs : ∀ x, foldedSetIterable iter X.env x = pure x := by intro _; rfl) :
    XO X ρ (.ListComp elt [⟨tg, iter, [], 0⟩] scope pos) (kF u) (mx.bind fun xs => mapR me xs) := by
  have h := xf_lc (mt := fun _ => .ok true) (pos := pos) hc hN hi ok hg (fun s H C cl fp x => xts_nil) he hj hs
  have e : (fun xs => compR (fun _ => R.ok true) me xs) = fun xs => mapR me xs := by
    funext xs
    exact compR_true me xs
  rw [e] at h
  exact h
/-- y = [..], y a local name, on one line -/
theorem xs_setLc {i : Nat} {y : Str} {py spos : Pos} {rest : List Stmt} {eN : ν → Env} {eB : κ → Env} {rk : Kd δ} {k : List β → R (Fl ν κ δ)} (hc : X.calm = true) (hN : X.N.Nodup) (hy : X.N[i]? = some y) (hyl : X.env.scope.names.lookup y = some .local) (hsw : swapsWith (.ListComp elt [⟨tg, iter, ifs, 0⟩] scope pos) (some (.Name y py)) spos.line X.env = pure true) (hi : XIc X ρ tg iter t mx) (ok : BlkOk X.N X.env.scope scope own) (hg : ∀ (s : Shared) (H : Hp) (C : Addr) (cl : List (Str × Addr)) (fp : List Addr), XG (X.blk s H scope (compEnvC scope cl C X.env) fp) tg t js f)
    (ht : ∀ (s : Shared) (H : Hp) (C : Addr) (cl : List (Str × Addr)) (fp : List Addr) x, XTs (X.blk s H scope (compEnvC scope cl C X.env) fp) (f (wipeE ρ (own.map (·.2))) x) ifs (mt x))
    (he : ∀ (s : Shared) (H : Hp) (C : Addr) (cl : List (Str × Addr)) (fp : List Addr) x, XO (X.blk s H scope (compEnvC scope cl C X.env) fp) (f (wipeE ρ (own.map (·.2))) x) elt (kE u) (me x)) (h : ∀ xs, XS X (ρ.set i (some (.ol u xs))) rest eN eB rk (k xs))
    (hj : ∀ j ∈ js, j ∈ own.map (·.2) := by decide) (hs : ∀ x, foldedSetIterable iter X.env x = pure x := by intro _; rfl) :
    XS X ρ (.Assign [.Name y py] (.ListComp elt [⟨tg, iter, ifs, 0⟩] scope pos) spos :: rest) eN eB rk (mx.bind fun xs => (compR mt me xs).bind k) := fun b hk =>
  pss_imp (pss_cons (ps_setLc hc hN hy hyl hsw (hi b hk) ok (fun s H C cl fp => pg_ex fun x => hg s H C cl fp b (wipeE ρ (own.map (·.2))) x ⟨hk.K⟩) (fun s H C cl fp => pts_ex fun x => ht s H C cl fp x b ⟨hk.K⟩) (fun s H C cl fp => pe_ex fun x => he s H C cl fp x b ⟨hk.K⟩) hs) (pss_ex fun x => h x b hk)) fun D σ H ⟨⟨G, I⟩, q⟩ => by
    rw [← R.bind_assoc] at q
    have key := lc_imp (u := u) (t := t) (f := f) (mx := mx) (mt := mt) (me := me) (js := js) (own := own) (ρ := ρ) (b := b) (σ := σ) (H := H) (Q := fun v H1 => ∃ xs, tS b (ρ.set i (some (.ol u xs))) eN eB rk (k xs) D (σ.set i (some v)) H1) hj ⟨G, I, seqO (oa := kF u) (outS b eN eB rk D) ⟨q, I.bh⟩ fun xs v G1 H1 g1 ⟨a, vs, e1, h0, h1, h2, h3⟩ w1 => ⟨xs, ⟨G1, by
      rw [e1]
      exact (I.grow g1).set_ol i h1 (I.bh.freeN h0) h2 h3 fun j s hj e o => I.own_ne h0 j s e o⟩, w1.1⟩⟩
    exact key
theorem xs_setLm {i : Nat} {y : Str} {py spos : Pos} {rest : List Stmt} {eN : ν → Env} {eB : κ → Env} {rk : Kd δ} {k : List β → R (Fl ν κ δ)} (hc : X.calm = true) (hN : X.N.Nodup) (hy : X.N[i]? = some y) (hyl : X.env.scope.names.lookup y = some .local) (hsw : swapsWith (.ListComp elt [⟨tg, iter, [], 0⟩] scope pos) (some (.Name y py)) spos.line X.env = pure true) (hi : XIc X ρ tg iter t mx) (ok : BlkOk X.N X.env.scope scope own) (hg : ∀ (s : Shared) (H : Hp) (C : Addr) (cl : List (Str × Addr)) (fp : List Addr), XG (X.blk s H scope (compEnvC scope cl C X.env) fp) tg t js f)
    (he : ∀ (s : Shared) (H : Hp) (C : Addr) (cl : List (Str × Addr)) (fp : List Addr) x, XO (X.blk s H scope (compEnvC scope cl C X.env) fp) (f (wipeE ρ (own.map (·.2))) x) elt (kE u) (me x)) (h : ∀ xs, XS X (ρ.set i (some (.ol u xs))) rest eN eB rk (k xs))
    (hj : ∀ j ∈ js, j ∈ own.map (·.2) := by decide) (hs : ∀ x, foldedSetIterable iter X.env x = pure x := by intro _; rfl) :
    XS X ρ (.Assign [.Name y py] (.ListComp elt [⟨tg, iter, [], 0⟩] scope pos) spos :: rest) eN eB rk (mx.bind fun xs => (mapR me xs).bind k) := by
  have q := xs_setLc (mt := fun _ => .ok true) (pos := pos) (py := py) (spos := spos) hc hN hy hyl hsw hi ok hg (fun s H C cl fp x => xts_nil) he h hj hs
  have e : (fun xs => (compR (fun _ => R.ok true) me xs).bind k) = fun xs => (mapR me xs).bind k := by
    funext xs
    rw [compR_true]
  rw [e] at q
  exact q
end
end Tr
end
section
set_option maxRecDepth 100000
set_option maxHeartbeats 2000000
/-! Tr7: calls of defs, defs. -/
namespace Tr
open PySem L2
variable [hasT : HasT] {α β γ δ τ ν κ : Type}

def erE (mg : Str → Option Value) (E : XK) (c : Str) (H : Hp) : Prop := ∀ C : Addr, mg c = some (Value.ref C) → E (Value.ref C) none H
/-- what a def promises: the value of F -/
def spO (K : PySem.W.Frag) (mg : Str → Option Value) (ts : AT τ) (o : Kd δ) (F : τ → R δ) : Sp := fun vs H Q E => ∃ (G : Hp) (x : τ), Same G H ∧ NT G ∧ LamX.Tabs hasT.T H ∧ ts.rel ⟨K, G, H, erE mg E⟩ G vs x ∧ EndO ⟨K, G, H, erE mg E⟩ o (F x) H G H Q
/-- a def of the module, with its promise -/
structure Def (P : Program) (w : World) (K : PySem.W.Frag) (mg : Str → Option Value) (base : Heap) (CX : CXT) (k : Nat) (nm : Str) (ts : AT τ) (o : Kd δ) (F : τ → R δ) : Prop where
  ex : ∃ (f : Addr) (fd : FuncData) (ps : List Str), mg nm = some (.ref f) ∧ PySem.W.keepIn K (.ref f) = true ∧ Binds K fd ps [] ∧ FnOk P w K mg base CX k f fd ps (spO K mg ts o F)
/-- what is wished of an exception, by the base -/
def EB (X : Cx) (b : Bs) : XK := fun cls d H' => ∃ (c : Str) (C : Addr), cls = Value.ref C ∧ X.mg c = some (.ref C) ∧ d = none ∧ b.er c H'
section
variable {X : Cx} {ρ : Env} {e : Expr} {es : List Expr} {nm : Str} {p pos : Pos} {ts : AT τ} {ms : R τ} {o : Kd δ} {F : τ → R δ} {k : Nat}
theorem EndO.call {b : Bs} {m : R δ} {H0 G H : Hp} {Q : VK} (w : EndO b o m H0 G H Q) (hh : Sm H0 H) (bh : Sm b.B H) : EndO ⟨b.K, G, H, erE X.mg (EB X b)⟩ o m H G H Q := by
  cases m with
  | ok y => exact fun v G' H' g r => w v G' H' g (o.back hh (o.up (b := ⟨b.K, G, H, erE X.mg (EB X b)⟩) (b' := b) rfl (fun a h => bh.freeN h) r))
  | err c => exact fun H' s C hC => ⟨c, C, rfl, hC, rfl, w H' s⟩
  | bad => exact w
theorem xo_call [pu : PuA ts] (D : Def X.prog X.w X.K X.mg X.base CX0 k nm ts o F) (hr : Room k X.A) (hg : Gl X nm) (ha : XA X ρ (e :: es) ts ms) (hdb : (nm == ("__debug__" : Str)) = false := by decide)
    (he : starEach (e :: es) X.env = (false, eval e X.env) :: starEach es X.env := by rfl) (hpl : (backTo pos (starEach es X.env)).any (·.1) = false := by rfl) :
    XO X ρ (.Call (.Name nm p) (e :: es) [] pos) o (ms.bind F) := fun b hk => by
  obtain ⟨f, fd, ps, hm, hkp, hb, Fo⟩ := D.ex
  refine pe_imp (pe_call (E := EB X b) Fo hr hg hm hkp hb .nil pass0 (ha b hk) hdb he hpl) fun σ H Q ⟨G, I, w⟩ => ⟨G, I, seqA (outO b o H Q) w fun x vs G1 H1 g1 r1 w1 => ?_⟩
  rw [List.append_nil]
  have w2 : EndO b o (F x) H G1 H1 Q := w1
  have w3 := EndO.call (X := X) w2 g1.h (I.bh.trans g1.h)
  rw [hk.K] at w3
  exact ⟨G1, x, g1.gh, g1.nt I.nt, g1.tb I.tb, pu.pu hk.K r1, w3⟩
/-- rows looked at as the heap stands -/
def EndAP (b : Bs) (ts : AT τ) (m : R τ) (G H : Hp) (Q : List V → Hp → Prop) : Prop := match m with
  | .ok x => ∀ vs G' H', Grow G H G' H' → ts.rel b (ntb H') vs x → Q vs H'
  | .err c => ∀ H', Sm H H' → b.er c H'
  | .bad => False
def outAP (b : Bs) (ts : AT τ) (Q : List V → Hp → Prop) : Out b τ where
  W m G H := EndAP b ts m G H Q
  shift {m} _ _ _ _ g h := match m, h with
    | .ok _, h => fun v G' H' g' r => h v G' H' (g.trans g') r
    | .err _, h => fun H' s => h H' (g.h.trans s)
  err h := h
  bad h := h
theorem seqAP {b : Bs} {G H : Hp} {k : τ → R β} {ts : AT τ} {ma : R τ} {Q1 : List V → Hp → Prop} (O : Out b β) (h : O.W (ma.bind k) G H) (hk : ∀ x vx G1 H1, Grow G H G1 H1 → ts.rel b (ntb H1) vx x → O.W (k x) G1 H1 → Q1 vx H1) : EndAP b ts ma G H Q1 := by
  cases ma with
  | ok x => exact fun v G' H' g r => hk x v G' H' g r (O.shift g h)
  | err c => exact O.err h
  | bad => exact (O.bad h).elim
def XP (X : Cx) (ρ : Env) (es : List Expr) (ts : AT τ) (m : R τ) : Prop := ∀ b : Bs, BOk X b → PA X es fun σ H Q => ∃ G, EnvOk b G H σ ρ ∧ EndAP b ts m G H Q
theorem xap_nil : XP X ρ [] aNil (.ok ()) := fun b hk => pa_imp pa_nil fun σ H Q ⟨G, I, w⟩ => w [] G H (Grow.refl I.gh) rfl
theorem xap_cons {t : Ty α} {ma : R α} (h : XO X ρ e (kP t) ma) (h2 : XP X ρ es ts ms) (hs : starEach (e :: es) X.env = (false, eval e X.env) :: starEach es X.env := by rfl) :
    XP X ρ (e :: es) (aCons t ts) (ma.bind fun x => ms.bind fun y => .ok (x, y)) := fun b hk => pa_imp (pa_cons (h b hk) (h2 b hk) hs) fun σ H Q ⟨G, I, w⟩ =>
  ⟨G, I, seqO (outAP b (aCons t ts) Q) w fun x v G1 H1 g1 r1 w1 => ⟨G1, I.grow g1, seqAP (outAP b (aCons t ts) Q) w1 fun y vs G2 H2 g2 r2 w2 =>
    w2 (v :: vs) G2 H2 (Grow.refl g2.gh) ⟨v, vs, rfl, t.mono g2.h.nt r1, r2⟩⟩⟩
theorem cv_P {t t' : Ty α} (h : Sub t t') : Cv (kP t) (kP t') id := ⟨fun _ _ r => h.s r⟩
/-- kinds of results that speak of no old heap -/
class Scal (o : Kd δ) : Prop where
  sc : ∀ {b : Bs} {H0 G G' H : Hp} {v : V} {x : δ}, (∀ a, ntb H0 a = none → G' a = none) → o.rel b H0 G H v x → o.rel b H0 G' H v x
instance (t : Ty δ) [Sc t] : Scal (kE t) := ⟨fun _ h => Sc.sc h⟩
instance (t : Ty δ) [Sc t] : Scal (kF t) := ⟨fun n ⟨a, vs, e, h0, h1, h2, h3⟩ => ⟨a, vs, e, h0, n a h0, h2, pmap h3 fun _ _ h => Sc.sc h⟩⟩
theorem xo_callP [pu : PuA ts] [sc : Scal o] (D : Def X.prog X.w X.K X.mg X.base CX0 k nm ts o F) (hr : Room k X.A) (hg : Gl X nm) (ha : XP X ρ (e :: es) ts ms) (hdb : (nm == ("__debug__" : Str)) = false := by decide)
    (he : starEach (e :: es) X.env = (false, eval e X.env) :: starEach es X.env := by rfl) (hpl : (backTo pos (starEach es X.env)).any (·.1) = false := by rfl) :
    XO X ρ (.Call (.Name nm p) (e :: es) [] pos) o (ms.bind F) := fun b hk => by
  obtain ⟨f, fd, ps, hm, hkp, hb, Fo⟩ := D.ex
  refine pe_imp (pe_call (E := EB X b) Fo hr hg hm hkp hb .nil pass0 (ha b hk) hdb he hpl) fun σ H Q ⟨G, I, w⟩ => ⟨G, I, seqAP (outO b o H Q) w fun x vs G1 H1 g1 r1 w1 => ?_⟩
  rw [List.append_nil]
  have w2 : EndO b o (F x) H G1 H1 Q := w1
  have w3 : EndO ⟨X.K, ntb H1, H1, erE X.mg (EB X b)⟩ o (F x) H1 (ntb H1) H1 Q := by
    rw [← hk.K]
    revert w2
    cases F x with
    | ok y =>
      intro w2 v G' H' g r
      refine w2 v G1 H' ⟨Same.refl _, g.h, ((g1.nt I.nt).of g1.gh).trans (g.g.trans g.gh), fun _ _ h => h, g.tb, id⟩ (o.back g1.h (sc.sc (fun a h => ((g1.nt I.nt).of g1.gh).free h) (o.up (b := ⟨b.K, ntb H1, H1, erE X.mg (EB X b)⟩) (b' := b) rfl (fun a h => (I.bh.trans g1.h).freeN h) r)))
    | err c => exact fun w2 H' s C hC => ⟨c, C, rfl, hC, rfl, w2 H' s⟩
    | bad => exact id
  exact ⟨ntb H1, x, nt_same H1, nt_NT H1, g1.tb I.tb, pu.pu hk.K r1, w3⟩
end

/-! ### defs -/
def unF (m : R (Fl Empty Empty δ)) : R δ := m.bind fun f => match f with
  | .nx s => s.elim
  | .bk s => s.elim
  | .ct s => s.elim
  | .rt y => .ok y
/-- the slots at a def's start -/
structure AE (ts : AT τ) (f : τ → Env) : Prop where
  ae : ∀ {b : Bs} {G : Hp} {vs : List V} {x : τ}, ts.rel b G vs x → vs.length = (f x).length ∧ ∀ (i : Nat) (s : SV), (f x)[i]? = some (some s) → s.own = false ∧ ∃ v, vs[i]? = some v ∧ ∀ H, SvOk b G H v s
theorem ae_nil : AE aNil (fun _ => []) := ⟨fun h => ⟨by rw [show _ = [] from h]; rfl, fun i s e => by simp at e⟩⟩
theorem ae_cons {t : Ty α} {ts : AT τ} {f : τ → Env} (h : AE ts f) : AE (aCons t ts) (fun x => some (.sh t x.1) :: f x.2) := ⟨fun {b G vs x} ⟨v, r, e, h1, h2⟩ => by
  obtain ⟨l, q⟩ := h.ae h2
  refine ⟨by rw [e, List.length_cons, List.length_cons, l], fun i s es => ?_⟩
  cases i with
  | zero =>
    have es' : some (some (SV.sh t x.1)) = some (some s) := es
    cases es'
    exact ⟨rfl, v, by rw [e]; rfl, fun H => h1⟩
  | succ i =>
    obtain ⟨o, w, hw, k⟩ := q i s es
    exact ⟨o, w, by rw [e]; exact hw, k⟩⟩
section
variable {P : Program} {w : World} {K : PySem.W.Frag} {mg : Str → Option Value} {base : Heap}
theorem fn_ok {x qual : Str} {st : Stmt} {f : Addr} {fd : FuncData} {N ps : List Str} {k n : Nat} {ts : AT τ} {o : Kd δ} {m : τ → R (Fl Empty Empty δ)} {fe : τ → Env} (F : Fun K x qual st f fd) (S : FnScope N ps (defScope st)) (hf : AE ts fe) (hn : N.length = ps.length + n) (hl : ∀ x, (fe x).length = ps.length)
    (body : ∀ (cdv : Value) (A : Around) (outer : List PySem.Env) (s : Shared) (H : Hp) (E : XK), Room k (A.deeper (PyProof.Rows.envOfC qual (defScope st) s.heap.objs.size f cdv)) → ∀ x, XS (cxOf CX0 P w K mg base N qual (defScope st) f cdv A outer s H E).nox (fe x ++ List.replicate n none) (defBody st) eNo eNo o (m x)) :
    FnOk P w K mg base CX0 (k + 1) f fd ps (spO K mg ts o fun x => unF (m x)) := by
  refine F.ok S (fun vs H Q E ⟨G, x, _, _, _, r, _⟩ => by rw [(hf.ae r).1, hl]) fun cdv A outer s H vs Q E hr ⟨G, x, gh, nG, tb, r, q⟩ => ?_
  obtain ⟨l, sl⟩ := hf.ae r
  refine ⟨_, body cdv A outer s H E hr x ⟨K, G, H, erE mg E⟩ ⟨rfl⟩, ⟨G, gh, Sm.refl _, Same.refl _, fun a _ h => h, fun i s e => ?_, fun i j s s' v _ e1 _ o1 _ => ?_, ?_, tb, nG⟩, ?_⟩
  · have e' : (fe x)[i]? = some (some s) := by
      by_cases hi : i < (fe x).length
      · rw [List.getElem?_append_left hi] at e
        exact e
      · rw [List.getElem?_append_right (by omega), List.getElem?_replicate] at e
        split at e <;> cases e
    obtain ⟨_, v, hv, k⟩ := sl i s e'
    have hi : i < vs.length := (List.getElem?_eq_some_iff.mp hv).1
    exact ⟨v, by
      unfold L2.start
      rw [List.getElem?_append_left (by simpa using hi), List.getElem?_map, hv]
      rfl, k H⟩
  · have e' : (fe x)[i]? = some (some s) := by
      by_cases hi : i < (fe x).length
      · rw [List.getElem?_append_left hi] at e1
        exact e1
      · rw [List.getElem?_append_right (by omega), List.getElem?_replicate] at e1
        split at e1 <;> cases e1
    rw [(sl i s e').1] at o1
    cases o1
  · unfold L2.start
    rw [List.length_append, List.length_map, List.length_replicate, List.length_append, List.length_replicate, hl, l, hl, hn]
    omega
  · have q2 : EndO ⟨K, G, H, erE mg E⟩ o (unF (m x)) H G H Q := q
    revert q2
    unfold unF
    cases m x with
    | ok fl =>
      cases fl with
      | nx s => exact s.elim
      | bk s => exact s.elim
      | ct s => exact s.elim
      | rt y => exact id
    | err c => exact id
    | bad => exact id
end

/-! ### short words -/
section
variable {X : Cx} {ρ : Env} {nm : Str} {pos : Pos} {t : Ty α}
/-- a name whose slot is frozen; a list of one's own that is read; looked at -/
theorem vE (i : Nat) {x : α} (h : ρ[i]? = some (some (.sh t x))) (hN : X.N[i]? = some nm) (hv : Vis X.env.scope nm := by first | exact Or.inl rfl | exact Or.inr (Or.inl rfl) | exact Or.inr (Or.inr rfl)) (hd : (nm == ("__debug__" : Str)) = false := by decide) (hcd : (nm == ("__classdict__" : Str)) = false := by decide) :
    XO X ρ (.Name nm pos) (kE t) (.ok x) := xe_var h hN hv hd hcd
theorem vL (i : Nat) {xs : List α} (h : ρ[i]? = some (some (.ol t xs))) (hN : X.N[i]? = some nm) (hv : Vis X.env.scope nm := by first | exact Or.inl rfl | exact Or.inr (Or.inl rfl) | exact Or.inr (Or.inr rfl)) (hd : (nm == ("__debug__" : Str)) = false := by decide) (hcd : (nm == ("__classdict__" : Str)) = false := by decide) :
    XO X ρ (.Name nm pos) (kL t) (.ok xs) := xl_var h hN hv hd hcd
theorem vP (i : Nat) {xs : List α} (h : ρ[i]? = some (some (.ol t xs))) (hN : X.N[i]? = some nm) (hv : Vis X.env.scope nm := by first | exact Or.inl rfl | exact Or.inr (Or.inl rfl) | exact Or.inr (Or.inr rfl)) (hd : (nm == ("__debug__" : Str)) = false := by decide) (hcd : (nm == ("__classdict__" : Str)) = false := by decide) :
    XO X ρ (.Name nm pos) (kP (tListN t)) (.ok xs) := xp_var h hN hv hd hcd
/-- .. a list of one's own that is returned: it was made in this run -/
theorem vF (i : Nat) {xs : List α} (h : ρ[i]? = some (some (.ol t xs))) (hN : X.N[i]? = some nm) (hv : Vis X.env.scope nm := by first | exact Or.inl rfl | exact Or.inr (Or.inl rfl) | exact Or.inr (Or.inr rfl)) (hd : (nm == ("__debug__" : Str)) = false := by decide) (hcd : (nm == ("__classdict__" : Str)) = false := by decide) :
    ∀ b : Bs, BOk X b → PE X (.Name nm pos) (fun σ H Q => ∃ G, EnvOk b G H σ ρ ∧ ∀ v, (kF t).rel b b.B G H v xs → Q v H) := fun b hb => pe_imp (pe_var hN hv hd hcd) fun σ H Q ⟨G, I, h1⟩ => by
  obtain ⟨v, hv, a, vs, e, r1, r2, r3, r4⟩ := I.sl i _ h
  exact ⟨v, hv, h1 v ⟨a, vs, e, r2, r1, r3, r4⟩⟩
/-- return x, x a list of one's own -/
theorem xs_retO (i : Nat) {xs : List α} {rest : List Stmt} {ν κ : Type} {eN : ν → Env} {eB : κ → Env} {p2 : Pos} (h : ρ[i]? = some (some (.ol t xs))) (hN : X.N[i]? = some nm) (hv : Vis X.env.scope nm := by first | exact Or.inl rfl | exact Or.inr (Or.inl rfl) | exact Or.inr (Or.inr rfl)) (hd : (nm == ("__debug__" : Str)) = false := by decide) (hcd : (nm == ("__classdict__" : Str)) = false := by decide) :
    XS X ρ (.Return (some (.Name nm p2)) pos :: rest) eN eB (kF t) (.ok (.rt xs)) := fun b hk => pss_imp (pss_cons (ps_ret (vF i h hN hv hd hcd b hk)) pss_never) fun D σ H ⟨⟨G, I⟩, q⟩ =>
  ⟨G, I, fun v r => q v G H I.base r⟩
end
end Tr
end
section
set_option maxRecDepth 100000
set_option maxHeartbeats 2000000
/-! Tr8: lambdas of one parameter; min and max with and without a key. -/
namespace Tr
open PySem L2
open PySem.Spec PyProof.Rows
variable [hasT : HasT] {α β γ δ τ ν κ : Type}

/-- one parameter pn, captured names, globals -/
structure Lam1 (sc scope : Scope) (pn : Str) : Prop where
  kind : scope.kind = .function
  co : scope.isCoroutine = false
  gen : scope.isGenerator = false
  own : ∀ y ∈ scope.names, y.2 ≠ .cell ∧ (y.2 = .local → y.1 = pn)
  par : scope.names.lookup pn = some .local
  free : ∀ y ∈ scope.names, y.2 = .free → sc.names.lookup y.1 = some .cell ∨ sc.names.lookup y.1 = some .free
def lam1B (sc scope : Scope) (pn : Str) : Bool :=
  decide (scope.kind = .function) && !scope.isCoroutine && !scope.isGenerator && decide (scope.names.lookup pn = some .local) &&
    scope.names.all fun y => !decide (y.2 = .cell) && (!decide (y.2 = .local) || decide (y.1 = pn)) && (!decide (y.2 = .free) || decide (sc.names.lookup y.1 = some .cell) || decide (sc.names.lookup y.1 = some .free))
theorem lam1_by {sc scope : Scope} {pn : Str} (h : lam1B sc scope pn = true) : Lam1 sc scope pn := by
  unfold lam1B at h
  simp only [Bool.and_eq_true, Bool.or_eq_true, Bool.not_eq_true', decide_eq_true_eq, decide_eq_false_iff_not, List.all_eq_true] at h
  obtain ⟨⟨⟨⟨h1, h2⟩, h3⟩, h5⟩, h4⟩ := h
  refine ⟨h1, h2, h3, fun y hy => ⟨(h4 y hy).1.1, fun e => ?_⟩, h5, fun y hy e => ?_⟩
  · rcases (h4 y hy).1.2 with z | z
    · exact absurd e z
    · exact z
  · rcases (h4 y hy).2 with (z | z) | z
    · exact absurd e z
    · exact .inl z
    · exact .inr z
section
variable {X : Cx} {pins : List (Addr × Obj)} {σ : L2.St} {H : Hp} {s : Shared}
theorem Lam1.has {scope : Scope} {pn : Str} (L : Lam1 X.env.scope scope pn) (ok : X.Ok) (y : Str × NameKind) (hy : y ∈ scope.names) (e : y.2 = .free) : ∃ c, X.env.cells.lookup y.1 = some c :=
  ok.has _ ((L.free y hy e).elim .inl .inr)
theorem lam1_start {A : Around} {outer : List PySem.Env} {E : XK} {scope : Scope} {f c' : Addr} {h₁ : Heap} {tk i : Nat} {pn : Str} {v : V} {u : Value} (I : Inv X pins σ H s) (L : Lam1 X.env.scope scope pn) (e0 : Env0 X.prog X.w X.K X.mg X.base A outer s H) (hd : A.handled = none)
    (hN : X.N.Nodup) (hi : X.N[i]? = some pn) (rv : RelV v u) (hns : h₁.Ns s.heap.objs.size fun y => ([(pn, u)] : List (Str × Value)).reverse.lookup y) (kp : ∀ b o, s.heap.get? b = some o → h₁.get? b = some o) :
    Inv (LamX.lamCx X A outer s H E scope f c') [] (σ.set i (some v)) H { s with heap := h₁, toks := tk } := by
  have cellsub : ∀ y c, (cloFrom X.env.cells scope.names []).lookup y = some c → X.env.cells.lookup y = some c := fun y c e => by
    rcases cloFrom_mem (PySem.mem_of_lookup e) with hm | ⟨h1, h2⟩
    · cases hm
    · obtain ⟨c1, q⟩ := L.has I.ok _ h1 rfl
      have q2 : X.env.cells.lookup y = some c1 := q
      rw [q2] at h2
      rw [q2, h2]
      rfl
  have cellmake : ∀ y, scope.names.lookup y = some .free → ∃ c, (cloFrom X.env.cells scope.names []).lookup y = some c := fun y e =>
    mem_lookup (cloFrom_has (cells := X.env.cells) (acc := []) (PySem.mem_of_lookup e))
  have stay : ∀ c v, s.heap.IsCell c v → h₁.IsCell c v := fun c v ⟨o, ho, hq⟩ => ⟨o, kp c o ho, hq⟩
  have noex : ∀ b : Addr, b ∉ ([] : List Addr) := fun b z => nomatch z
  have okk : (LamX.lamCx X A outer s H E scope f c').Ok :=
    { mod := e0.mod, kind := L.kind, glob := rfl, blt := rfl, above := Nat.le_refl _
      inj := fun y z c e1 e2 => I.ok.inj y z c (cellsub y c e1) (cellsub z c e2)
      has := fun y hy => by
        rcases (show scope.names.lookup y = some .cell ∨ scope.names.lookup y = some .free from hy) with q | q
        · exact absurd rfl (L.own _ (PySem.mem_of_lookup q)).1
        · exact cellmake y q
      cab := fun y c z _ => absurd (show false = true from z) (by simp)
      hd := fun _ => hd, frames := Around.frames_deeper e0.frames, stk := .inr ⟨rfl, rfl⟩
      exf := fun b z => absurd z (noex b), bs := e0.bs, bsz := e0.bsz, noex := fun b _ _ => noex b, exfs := fun b z => absurd z (noex b), funs := e0.funs, frf := e0.frf }
  refine { ok := okk, os := rfl, bare := e0.bare, base := Un.kept kp, loc := ⟨_, hns, fun j y w e1 e2 e3 => ?_⟩, cell := fun y c e => ?_, free := e0.hok.fresh (Nat.le_refl _), freeC := fun y c e => I.freeC y c (cellsub y c e)
           pin := fun q hq => absurd (show q ∈ ([] : List (Addr × Obj)) from hq) (by simp), hok := e0.hok.kept kp, len := by rw [List.length_set]; exact I.len }
  · by_cases hj : i = j
    · subst hj
      have hl : i < σ.length := by rw [I.len]; exact (List.getElem?_eq_some_iff.mp hi).1
      rw [List.getElem?_set_self hl] at e2
      cases e2
      have ey : y = pn := Option.some.inj ((show X.N[i]? = some y from e1).symm.trans hi)
      refine ⟨u, rv, .inl ⟨?_, ?_⟩⟩
      · rw [ey]
        exact L.par
      · rw [ey]
        show List.lookup pn [(pn, u)] = some u
        rw [List.lookup_cons]
        simp
    · rw [List.getElem?_set_ne hj] at e2
      have e1' : X.N[j]? = some y := e1
      rcases (show scope.names.lookup y = some .local ∨ scope.names.lookup y = some .cell ∨ scope.names.lookup y = some .free from e3) with q | q | q
      · have ey : y = pn := (L.own _ (PySem.mem_of_lookup q)).2 rfl
        rw [ey] at e1'
        exact absurd (nodup_ix hN hi e1') hj
      · exact absurd rfl (L.own _ (PySem.mem_of_lookup q)).1
      · obtain ⟨m, _, hl⟩ := I.loc
        have hf := L.free _ (PySem.mem_of_lookup q) rfl
        obtain ⟨w', r, z⟩ := hl j y w e1' e2 (hf.elim (fun k => .inr (.inl k)) (fun k => .inr (.inr k)))
        obtain ⟨c2, h2⟩ := cellmake y q
        refine ⟨w', r, .inr ⟨.inr q, c2, h2, ?_⟩⟩
        rcases z with ⟨k, _⟩ | ⟨_, c3, e4, z⟩
        · exfalso
          have k2 : X.env.scope.names.lookup y = some .local := k
          rcases hf with k3 | k3
          · rw [show X.env.scope.names.lookup y = some .cell from k3] at k2
            cases k2
          · rw [show X.env.scope.names.lookup y = some .free from k3] at k2
            cases k2
        · rw [cellsub y c2 h2] at e4
          cases e4
          exact stay _ _ z
  · obtain ⟨w', z⟩ := I.cell y c (cellsub y c e)
    exact ⟨w', stay _ _ z⟩
/-- the lambda at f, called with one value -/
theorem lam1_run {Q : VK} {scope : Scope} {f c' : Addr} {params : Arguments} {body : Expr} {pm ctv : Value} {i k : Nat} {pn : Str} {v : V} {u : Value} {tb : TE} (I : Inv X pins σ H s) (L : Lam1 X.env.scope scope pn)
    (hf : s.heap.get? f = some (PySem.W.kla_obj "<lambda>" (X.env.qual ++ "<lambda>") params body scope (cloFrom X.env.cells scope.names []) pm c' ctv)) (hc : H c' = some (LamX.CodeO c' (X.env.qual ++ "<lambda>")))
    (hbind : ∀ u : Value, bindArgs (PySem.W.kla_fn "<lambda>" (X.env.qual ++ "<lambda>") params body scope (cloFrom X.env.cells scope.names []) pm (.ref c') ctv) ⟨[u], []⟩ = pure [(pn, u)])
    (hN : X.N.Nodup) (hi : X.N[i]? = some pn) (rv : RelV v u) (hr : Room (k + 1) X.A.in1)
    (hbody : ∀ (A : Around) (outer : List PySem.Env) (s : Shared) (H : Hp) (E : XK), Room k (A.deeper (LamX.lamEnv X scope s.heap.objs.size f c')) → PE (LamX.lamCx X A outer s H E scope f c').nox body tb) (ht : tb (σ.set i (some v)) H Q) :
    wpAny (model X.prog X.w) X.A.in1 (call (.ref f) [u]) (EP X pins σ Q) (fun _ _ => False) s := by
  obtain ⟨⟨oc, vs, t, hoc, hdc, hvc⟩, _, _⟩ := I.hok c' _ hc
  refine wpAny_call (codeAny_mono (R := fun r s' => match r with
    | .ok (.ret u) => CE X.stack X.prog X.w H s Q u s'
    | _ => False) ?_ fun r s' hq => ?_)
  · refine PySem.W.kla_callFunE hr.depth hf rfl L.co L.gen rfl ⟨c', oc, vs, t, rfl, hoc, hdc, hvc⟩ ?_
    rw [hbind]
    refine wpAny_pure (wpAny_newFunctionEnv (fun y hy => (L.own y hy).1) (fun y hy => ?_) (fun h₁ hns hsb => ⟨I.nolimit.fresh _ hsb, ?_⟩) L.kind)
    · have e : y = (pn, u) := by simpa using hy
      rw [e]
      exact L.par
    · show codeAny _ _ (.expr body (LamX.lamEnv X scope s.heap.objs.size f c')) _ _
      have kp : ∀ b o, s.heap.get? b = some o → h₁.get? b = some o := fun b o e => hsb.extBut b o (Nat.ne_of_lt (Heap.lt_size e)) (Heap.get?_push_of_some _ e)
      have J := (lam1_start (A := X.A.in1) (outer := X.stack) (E := fun _ _ _ => False) (f := f) (c' := c') (tk := s.toks + [(pn, u)].length) I L I.env0.in1 hr.hd hN hi rv hns kp).wish fun _ _ => False
      refine PySem.W.kla_codeExpr (wpAny_mono ((hbody _ _ s H _ (hr.deeper _)).run [] _ _ H Q J ht) (fun v s' hq => ?_) fun e s' hq => False.elim hq)
      obtain ⟨w', H', J', rv', q⟩ := hq
      exact ⟨w', H', J'.os, J'.bare, J'.base, J'.hok, rv', q⟩
  · cases r with
    | error e => exact hq
    | ok fl =>
      cases fl with
      | ret u => exact I.after hq
      | next => exact hq
      | brk => exact hq
      | cont => exact hq
end

/-! ### min -/
def bestR (lt : κ → κ → Bool) (kf : α → R κ) : α → κ → List α → R α
  | x, _, [] => .ok x
  | x, k, y :: ys => match kf y with
    | .ok k' => if lt k' k = true then bestR lt kf y k' ys else bestR lt kf x k ys
    | _ => .bad
def minKR (lt : κ → κ → Bool) (kf : α → R κ) : List α → R α
  | [] => .bad
  | x :: xs => match kf x with
    | .ok k => bestR lt kf x k xs
    | _ => .bad
/-- how keys of a sort compare -/
class Lts (u : Ty κ) (lt : outParam (κ → κ → Bool)) : Prop where
  lt : ∀ {X : Cx} {pins : List (Addr × Obj)} {σ : L2.St} {H G : Hp} {s : Shared} {b : Bs} {v w : V} {x y : κ} {V W : Value} {Q E : Value → Shared → Prop}, b.K = X.K → Inv X pins σ H s → Same G H → u.rel b G v x → u.rel b G w y → RelV v V → RelV w W →
    X.A.in1.units < cLine → Q (.bool (lt x y)) s → wpAny (model X.prog X.w) X.A.in1 (richCompare .Lt V W) Q E s
instance : Lts tInt (fun x y => decide (x < y)) := ⟨fun hk I gh r1 r2 q1 q2 _ h => by
  cases r1
  cases r2
  obtain ⟨t, rfl⟩ := q1
  obtain ⟨t', rfl⟩ := q2
  exact lt_int h⟩
def lexLt2 (x y : Int × Int × Unit) : Bool := HT.lexLt [x.1, x.2.1] [y.1, y.2.1]
instance : Lts (tT (aCons tInt (aCons tInt aNil))) lexLt2 := ⟨fun {X pins σ H G s b v w x y V W Q E} hk I gh r1 r2 q1 q2 hu h => by
  obtain ⟨a1, vs1, rfl, t1, v1, r1, rfl, h1, v2, r1', rfl, h2, rfl⟩ := r1
  obtain ⟨a2, vs2, rfl, t2, w1, r2, rfl, k1, w2, r2', rfl, k2, rfl⟩ := r2
  cases q1
  cases q2
  cases h1
  cases h2
  cases k1
  cases k2
  rw [hk] at t1 t2
  obtain ⟨its, rv1, p1, _⟩ := I.tuple (seqT gh t1)
  obtain ⟨jts, rv2, p2, _⟩ := I.tuple (seqT gh t2)
  exact HT.lt_tupInts (ns := [x.1, x.2.1]) (ms := [y.1, y.2.1]) p1 p2 (intsAre_of (by exact rv1)) (intsAre_of (by exact rv2)) hu h⟩
section
variable {X : Cx} {pins : List (Addr × Obj)} {σ : L2.St} {ρ : Env} {b : Bs} {t : Ty α} {u : Ty κ} {lt : κ → κ → Bool} {kf : α → R κ} {E : Value → Shared → Prop}
theorem fp_turn {H : Hp} {it : Addr} {s : Shared} {h' : Heap} {tk : Nat} (I : Inv X pins σ H s) (f : FpOk X pins H it) (k : ∀ b o, b ≠ it → s.heap.get? b = some o → h'.get? b = some o) : Inv X pins σ H { s with heap := h', toks := tk } :=
  I.turned k f.1 f.2.1 f.2.2.2.1 f.2.2.2.2.1 f.2.2.2.2.2
theorem fp_at {H H' : Hp} {it : Addr} (f : FpOk X pins H it) (n : H' it = none) : FpOk X pins H' it := ⟨n, f.2⟩
/-- one value by the key, whatever stands pinned -/
def KeyRun (X : Cx) (σ : L2.St) (ρ : Env) (b : Bs) (t : Ty α) (u : Ty κ) (q : Addr) (H1 : Hp) (P : List (Addr × Obj)) (kf : α → R κ) : Prop :=
  ∀ (pins : List (Addr × Obj)), (∀ p ∈ P, p ∈ pins) → ∀ (s : Shared) (G H : Hp) (v : V) (V : Value) (x : α) (k : κ), Inv X pins σ H s → EnvOk b G H σ ρ → Sm H1 H → t.rel b G v x → RelV v V → kf x = .ok k →
    wpAny (model X.prog X.w) X.A.in1 (call (.ref q) [V]) (fun KV s' => ∃ kv G' H', Inv X pins σ H' s' ∧ RelV kv KV ∧ Grow G H G' H' ∧ u.rel b G' kv k) (fun _ _ => False) s
theorem min_loop [cl : Lts u lt] (hk : b.K = X.K) (hu : X.A.in1.units < cLine) (hh : X.A.handled = none) {q l S It : Addr} {H1 : Hp} {vs : List V} {xs : List α} {P : List (Addr × Obj)} (hP : ∀ p ∈ P, p ∈ pins) (run : KeyRun X σ ρ b t u q H1 P kf) (hSI : S ≠ It) {Rr : Result → Shared → Prop} (O : Out b α)
    (fin : ∀ (x : α) (v : V) (V : Value) (G H : Hp) (s : Shared), Inv X pins σ H s → EnvOk b G H σ ρ → O.W (.ok x) G H → t.rel b G v x → RelV v V → Rr (.ok (.ret V)) s) :
    ∀ (r j : Nat) (s : Shared) (G H : Hp) (bx : α) (bk : κ) (bv kv : V) (BV KV : Value) (c : Nat), xs.length - j = r → j ≤ xs.length → Inv X pins σ H s → EnvOk b G H σ ρ → Sm H1 H → O.W (bestR lt kf bx bk (xs.drop j)) G H →
      H l = some (.lst vs) → Paired (t.rel b G) vs xs → FpOk X pins H S → FpOk X pins H It → s.heap.IsListIter It l j → s.heap.get? S = some (seqObj "list" #[BV, KV] c) → RelV bv BV → t.rel b G bv bx → RelV kv KV → u.rel b G kv bk →
      codeAny (model X.prog X.w) X.A (.builtin "min.loop" ⟨[.ref It, .ref q, .ref S], []⟩) Rr s := by
  intro r
  induction r with
  | zero =>
    intro j s G H bx bk bv kv BV KV c hr hj I Ie sm w hl hp fS fI hit hS rb tb rk ub
    have e : xs.drop j = [] := List.drop_of_length_le (by omega)
    rw [e] at w
    obtain ⟨its, rv, pl, hz⟩ := I.list (a := l) (xs := vs) (.inl (.inl hl))
    have hlen : its.length = xs.length := by rw [← rv.length, plen hp]
    refine codeAny_builtin PySem.F.entry_min_loop ?_
    rw [Around.under_plainId PySem.F.plain_min_loop]
    show wpAny _ X.A.in1 (seqItems? (.ref S) >>= _) _ _ s
    refine wpAny_bind (wpAny_seqItems hS rfl ?_)
    show wpAny _ X.A.in1 (tryCatch (pyNext (.ref It)) _ >>= _) _ _ s
    refine wpAny_bind (wpAny_tryCatch (wpAny_pyNext_list_end hh hit pl.isList (by rw [List.getElem?_toArray]; exact List.getElem?_eq_none (by omega)) fun h' eb => ?_))
    have I1 : Inv X pins σ H { s with heap := h' } := fp_turn (tk := s.toks) I fI fun b o hb e => eb b o hb e
    have hS1 := eb S _ hSI hS
    show wpAny _ _ (updateSeq S (fun _ => #[]) >>= _) _ _ _
    refine wpAny_bind (wpAny_updateSeq hS1 rfl (wpAny_bind (wpAny_letGo (wpAny_pure ?_))))
    have sb := Heap.SameBut.update h' S (Obj.mapSeq fun _ => (#[] : Array Value))
    exact fin bx bv BV G H _ (fp_turn (tk := s.toks) I1 fS fun b o hb e => (sb.2 b hb).trans e) Ie w tb rb
  | succ r ih =>
    intro j s G H bx bk bv kv BV KV c hr hj I Ie sm w hl hp fS fI hit hS rb tb rk ub
    have hlt : j < xs.length := by omega
    have hxj : xs[j]? = some xs[j] := List.getElem?_eq_getElem hlt
    obtain ⟨v, hv, tv⟩ := pget hp hxj
    obtain ⟨its, rv, pl, hz⟩ := I.list (a := l) (xs := vs) (.inl (.inl hl))
    obtain ⟨V, hV, rV⟩ := rv.get hv
    rw [List.drop_eq_getElem_cons hlt] at w
    cases hkf : kf xs[j] with
    | err c' =>
      simp only [bestR, hkf] at w
      exact (O.bad w).elim
    | bad =>
      simp only [bestR, hkf] at w
      exact (O.bad w).elim
    | ok k =>
      simp only [bestR, hkf] at w
      refine codeAny_builtin PySem.F.entry_min_loop ?_
      rw [Around.under_plainId PySem.F.plain_min_loop]
      show wpAny _ X.A.in1 (seqItems? (.ref S) >>= _) _ _ s
      refine wpAny_bind (wpAny_seqItems hS rfl ?_)
      show wpAny _ X.A.in1 (tryCatch (pyNext (.ref It)) _ >>= _) _ _ s
      refine wpAny_bind (wpAny_tryCatch (wpAny_pyNext_list_item hit pl.isList (x := V) (by rw [List.getElem?_toArray]; exact hV) fun h' hit' sb => ?_))
      have I1 : Inv X pins σ H { s with heap := h' } := fp_turn (tk := s.toks) I fI fun b o hb e => (sb.2 b hb).trans e
      have hS1 : h'.get? S = some (seqObj "list" #[BV, KV] c) := (sb.2 S hSI).trans hS
      obtain ⟨oI, hoI, hIc, hId⟩ := id hit'
      have I2 := I1.pinned (fp := [S, It]) (fun b hb => by
        rcases List.mem_cons.mp hb with e | hb
        · exact e ▸ fS
        · rw [List.mem_singleton.mp hb]
          exact fI) fun b hb => by
        rcases List.mem_cons.mp hb with e | hb
        · exact e ▸ ⟨_, hS1, fun v z => nomatch z⟩
        · rw [List.mem_singleton.mp hb]
          exact ⟨oI, hoI, fun v z => by
            rw [hId] at z
            cases z⟩
      show wpAny _ _ (tryCatch (holding [V] (call (.ref q) [V])) _ >>= _) _ _ _
      refine wpAny_bind (wpAny_tryCatch (wpAny_holding (wpAny_mono (run _ (fun p hp => List.mem_append_left _ (hP p hp)) _ G H v V xs[j] k I2 Ie sm tv rV hkf) (fun KV2 s2 h2 => ?_) fun _ _ z => z.elim)))
      obtain ⟨kv2, G2, H2, I3, rk2, g2, u2⟩ := h2
      have pS := I3.pin (S, _) (List.mem_append_right _ (List.mem_append_right _ (mem_pinsAt (b := S) List.mem_cons_self hS1)))
      have pI := I3.pin (It, _) (List.mem_append_right _ (List.mem_append_right _ (mem_pinsAt (b := It) (List.mem_cons_of_mem _ List.mem_cons_self) hoI)))
      have I4 := I3.unpinned
      have fS2 : FpOk X pins H2 S := fp_at fS pS.2.1
      have fI2 : FpOk X pins H2 It := fp_at fI pI.2.1
      have w2 := O.shift g2 w
      show wpAny _ _ (tryCatch (holding [V, KV2] (richCompare .Lt KV2 KV >>= _)) _ >>= _) _ _ _
      refine wpAny_bind (wpAny_tryCatch (wpAny_holding (wpAny_bind (cl.lt hk I4 g2.gh u2 (u.mono g2.g ub) rk2 rk hu ?_))))
      refine wpAny_bind (wpAny_holding (wpAny_truthy_bool (wpAny_bind (wpAny_letGo (wpAny_pure ?_)))))
      cases hb : lt k bk with
      | true =>
        rw [hb, if_pos rfl] at w2
        show wpAny _ _ (updateSeq S (fun _ => #[V, KV2]) >>= _) _ _ _
        obtain ⟨c2, hc2⟩ : ∃ c2, (s2.heap.update S (Obj.mapSeq fun _ => #[V, KV2])).get? S = some (seqObj "list" #[V, KV2] c2) := ⟨_, get?_update_seq pS.1 fun _ => #[V, KV2]⟩
        have sb2 := Heap.SameBut.update s2.heap S (Obj.mapSeq fun _ => #[V, KV2])
        refine wpAny_bind (wpAny_updateSeq pS.1 rfl (wpAny_bind (wpAny_letGo (wpAny_pure ⟨plainId_quiet PySem.F.plain_min_loop _, ?_⟩))))
        exact ih (j + 1) _ G2 H2 xs[j] k v kv2 V KV2 c2 (by omega) hlt (fp_turn (tk := s2.toks) I4 fS2 fun b o hb e => (sb2.2 b hb).trans e) (Ie.grow g2) (sm.trans g2.h) w2 (g2.h.l hl) (pmap hp fun _ _ => t.mono g2.g) fS2 fI2
          ⟨oI, (sb2.2 It hSI.symm).trans pI.1, hIc, hId⟩ hc2 rV (t.mono g2.g tv) rk2 u2
      | false =>
        rw [hb, if_neg Bool.false_ne_true] at w2
        show wpAny _ _ (letGo [V, KV2] [] >>= _) _ _ _
        refine wpAny_bind (wpAny_letGo (wpAny_pure ⟨plainId_quiet PySem.F.plain_min_loop _, ?_⟩))
        exact ih (j + 1) _ G2 H2 bx bk bv kv BV KV c (by omega) hlt I4 (Ie.grow g2) (sm.trans g2.h) w2 (g2.h.l hl) (pmap hp fun _ _ => t.mono g2.g) fS2 fI2 ⟨oI, pI.1, hIc, hId⟩ pS.1 rb (t.mono g2.g tb) rk (u.mono g2.g ub)

theorem push_of {h : Heap} {o : Obj} (b : Addr) (x : Obj) (e : h.get? b = some x) : (h.push o).get? b = some x := Heap.get?_push_of_some _ e
/-- min of a list by a key -/
theorem min_key [cl : Lts u lt] (hk : b.K = X.K) (hu : X.A.in1.units < cLine) (hh : X.A.handled = none) {q l : Addr} {H1 : Hp} {vs : List V} {xs : List α} {P : List (Addr × Obj)} (hP : ∀ p ∈ P, p ∈ pins) (run : KeyRun X σ ρ b t u q H1 P kf) {Q : Value → Shared → Prop} (O : Out b α)
    (fin : ∀ (x : α) (v : V) (V : Value) (G H : Hp) (s : Shared), Inv X pins σ H s → EnvOk b G H σ ρ → O.W (.ok x) G H → t.rel b G v x → RelV v V → Q V s) {s : Shared} {G H : Hp} (I : Inv X pins σ H s) (Ie : EnvOk b G H σ ρ) (sm : Sm H1 H) (w : O.W (minKR lt kf xs) G H)
    (hl : H l = some (.lst vs)) (hp : Paired (t.rel b G) vs xs) : wpAny (model X.prog X.w) X.A (call (.builtin "min") [.ref l] [(Str.ofString "key", .ref q)]) Q E s := by
  cases xs with
  | nil => exact (O.bad w).elim
  | cons x0 xr =>
    obtain ⟨its, rv, pl, hz⟩ := I.list (a := l) (xs := vs) (.inl (.inl hl))
    have hx0 : (x0 :: xr)[0]? = some x0 := rfl
    obtain ⟨v, hv, tv⟩ := pget hp hx0
    obtain ⟨V, hV, rV⟩ := rv.get hv
    cases hkf : kf x0 with
    | err c' =>
      simp only [minKR, hkf] at w
      exact (O.bad w).elim
    | bad =>
      simp only [minKR, hkf] at w
      exact (O.bad w).elim
    | ok k =>
      simp only [minKR, hkf] at w
      refine kmk_tree PySem.F.kind_min PySem.F.plain_min PySem.F.entry_min (kmk_min_key _ _) ?_
      show wpAny _ X.A.in1 (Builtin.Builtins.bindParams "min" ["key", "default"] 0 ⟨[], [(Str.ofString "key", .ref q)]⟩ >>= _) _ _ s
      refine wpAny_bind (wpAny_of_eq (show _ = pure [some (.ref q), none] from rfl) (wpAny_bind (wpAny_pure (wpAny_bind (wpAny_pyIter_list pl.isList (wpAny_bind (wpAny_newList ?_ (Nat.zero_le _))))))))
      refine wpAny_pure ⟨plainId_quiet PySem.F.plain_min_loop _, ?_⟩
      generalize hIt : s.heap.objs.size = It
      generalize hh1 : s.heap.push { cls := .type "list_iterator", data := .fields #[.ref l, .int 0 0] } = g1
      have k1 : ∀ b o, s.heap.get? b = some o → g1.get? b = some o := fun b o e => by
        rw [← hh1]
        exact push_of b o e
      have z1 : g1.objs.size = It + 1 := by
        rw [← hh1, Heap.size_push, hIt]
      have gI : g1.get? It = some { cls := .type "list_iterator", data := .fields #[.ref l, .int 0 0] } := by
        rw [← hh1, ← hIt]
        exact Heap.get?_push_size _ rfl
      have I1 : Inv X pins σ H { s with heap := g1 } := I.kept (t' := s.toks) k1
      have fI : FpOk X pins H It := I.fpOk (Nat.le_of_eq hIt) (I.hok.fresh (Nat.le_of_eq hIt))
      generalize hS : g1.objs.size = S
      generalize hh2 : g1.push { cls := .type "list", data := .seq ([] : List Value).toArray } = g2
      have k2 : ∀ b o, g1.get? b = some o → g2.get? b = some o := fun b o e => by
        rw [← hh2]
        exact push_of b o e
      have gS : g2.get? S = some (seqObj "list" #[] 0) := by
        rw [← hh2, ← hS]
        exact Heap.get?_push_size _ rfl
      have I2 : Inv X pins σ H { s with heap := g2 } := I1.kept (t' := s.toks) (h' := g2) k2
      have fS : FpOk X pins H S := I1.fpOk (Nat.le_of_eq hS) (I1.hok.fresh (Nat.le_of_eq hS))
      have hSI : S ≠ It := by
        rw [← hS, z1]
        exact Nat.succ_ne_self It
      have hit : g2.IsListIter It l 0 := ⟨_, k2 _ _ gI, rfl, rfl⟩
      obtain ⟨its2, rv2, pl2, _⟩ := I2.list (a := l) (xs := vs) (.inl (.inl hl))
      obtain ⟨V, hV, rV⟩ := rv2.get hv
      rw [show (toString "min" ++ toString ".loop" : String) = "min.loop" by decide]
      refine codeAny_builtin PySem.F.entry_min_loop ?_
      rw [Around.under_plainId PySem.F.plain_min_loop]
      show wpAny _ X.A.in1 (seqItems? (.ref S) >>= _) _ _ { s with heap := g2 }
      refine wpAny_bind (wpAny_seqItems gS rfl ?_)
      show wpAny _ X.A.in1 (tryCatch (pyNext (.ref It)) _ >>= _) _ _ { s with heap := g2 }
      refine wpAny_bind (wpAny_tryCatch (wpAny_pyNext_list_item hit pl2.isList (x := V) (by rw [List.getElem?_toArray]; exact hV) fun h' hit' sb => ?_))
      have J1 : Inv X pins σ H { s with heap := h' } := fp_turn (s := { s with heap := g2 }) (tk := s.toks) I2 fI fun b o hb e => (sb.2 b hb).trans e
      have hS1 : h'.get? S = some (seqObj "list" #[] 0) := (sb.2 S hSI).trans gS
      obtain ⟨oI, hoI, hIc, hId⟩ := id hit'
      have J2 := J1.pinned (fp := [S, It]) (fun b hb => by
        rcases List.mem_cons.mp hb with e | hb
        · exact e ▸ fS
        · rw [List.mem_singleton.mp hb]
          exact fI) fun b hb => by
        rcases List.mem_cons.mp hb with e | hb
        · exact e ▸ ⟨_, hS1, fun v z => nomatch z⟩
        · rw [List.mem_singleton.mp hb]
          exact ⟨oI, hoI, fun v z => by
            rw [hId] at z
            cases z⟩
      show wpAny _ _ (tryCatch (holding [V] (call (.ref q) [V])) _ >>= _) _ _ _
      refine wpAny_bind (wpAny_tryCatch (wpAny_holding (wpAny_mono (run _ (fun p hp => List.mem_append_left _ (hP p hp)) _ G H v V x0 k J2 Ie sm tv rV hkf) (fun KV2 s2 h2 => ?_) fun _ _ z => z.elim)))
      obtain ⟨kv2, G2, H2, J3, rk2, g2', u2⟩ := h2
      have pS := J3.pin (S, _) (List.mem_append_right _ (List.mem_append_right _ (mem_pinsAt (b := S) List.mem_cons_self hS1)))
      have pI := J3.pin (It, _) (List.mem_append_right _ (List.mem_append_right _ (mem_pinsAt (b := It) (List.mem_cons_of_mem _ List.mem_cons_self) hoI)))
      have J4 := J3.unpinned
      have fS2 : FpOk X pins H2 S := fp_at fS pS.2.1
      have fI2 : FpOk X pins H2 It := fp_at fI pI.2.1
      have w2 := O.shift g2' w
      show wpAny _ _ (updateSeq S (fun _ => #[V, KV2]) >>= _) _ _ _
      obtain ⟨c2, hc2⟩ : ∃ c2, (s2.heap.update S (Obj.mapSeq fun _ => #[V, KV2])).get? S = some (seqObj "list" #[V, KV2] c2) := ⟨_, get?_update_seq pS.1 fun _ => #[V, KV2]⟩
      have sb2 := Heap.SameBut.update s2.heap S (Obj.mapSeq fun _ => #[V, KV2])
      refine wpAny_bind (wpAny_updateSeq pS.1 rfl (wpAny_pure ⟨plainId_quiet PySem.F.plain_min_loop _, ?_⟩))
      exact min_loop (xs := x0 :: xr) hk hu hh hP run hSI O fin _ 1 _ G2 H2 x0 k v kv2 V KV2 c2 rfl (by simp) (fp_turn (tk := s2.toks) J4 fS2 fun b o hb e => (sb2.2 b hb).trans e) (Ie.grow g2') (sm.trans g2'.h) w2 (g2'.h.l hl) (pmap hp fun _ _ => t.mono g2'.g) fS2 fI2
        ⟨oI, (sb2.2 It hSI.symm).trans pI.1, hIc, hId⟩ hc2 rV (t.mono g2'.g tv) rk2 u2

/-- where the running code keeps its code objects -/
structure LamAt (X : Cx) : Prop where
  at_ : ∃ c P, LamX.TabB X.base X.mg c P ∧ X.env.code = .ref c ∧ (P, X.env.qual ++ "<lambda>") ∈ hasT.T ∧ ∀ p ∈ hasT.T, p.1 = P → p.2 = X.env.qual ++ "<lambda>"
theorem xe_minKey [cl : Lts u lt] {e body : Expr} {m : R (List α)} {params : Arguments} {scope : Scope} {p pos lp kp : Pos} {pn : Str} (i : Nat) {k : Nat} (la : LamAt X) (hr : Room (k + 2) X.A) (hg : Gl X "min") (hm : X.mg "min" = none) (ha : XO X ρ e (kL t) m) (L : Lam1 X.env.scope scope pn)
    (hN : X.N.Nodup) (hi : X.N[i]? = some pn) (hdef : defaultsOf params X.env = ([], []))
    (hbind : ∀ (c' : Addr) (pm ctv : Value) (u : Value), bindArgs (PySem.W.kla_fn "<lambda>" (X.env.qual ++ "<lambda>") params body scope (cloFrom X.env.cells scope.names []) pm (.ref c') ctv) ⟨[u], []⟩ = pure [(pn, u)])
    (hb : ∀ (A : Around) (outer : List PySem.Env) (s : Shared) (H : Hp) (E : XK) (f c' : Addr), Room k (A.deeper (LamX.lamEnv X scope s.heap.objs.size f c')) → ∀ x, XO (LamX.lamCx X A outer s H E scope f c').nox (ρ.set i (some (.sh t x))) body (kE u) (kf x))
    (hs : starEach [e] X.env = (false, eval e X.env) :: starEach [] X.env := by rfl)
    (he : backTo pos (starEach [e] X.env) = (false, eval e X.env) :: backTo pos (starEach [] X.env) := by rfl) (hpl : (backTo pos (starEach [e] X.env)).any (·.1) = false := by rfl)
    (hall : (backToKw pos (keywordEach [⟨some "key", .Lambda params body scope lp, kp⟩] X.env)).all (·.1.isSome) = true := by rfl) (hnone : (backToKw pos (keywordEach [⟨some "key", .Lambda params body scope lp, kp⟩] X.env)).any (·.1.isNone) = false := by rfl) (hks : (backToKw pos (keywordEach [⟨some "key", .Lambda params body scope lp, kp⟩] X.env)).filterMap (·.1) = [Str.ofString "key"] := by rfl) :
    XO X ρ (.Call (.Name "min" p) [e] [⟨some "key", .Lambda params body scope lp, kp⟩] pos) (kE t) (m.bind (minKR lt kf)) := fun b hk => by
  refine ⟨fun pins s σ H Q I ⟨G, Ie, w⟩ => ?_⟩
  refine wpAny_Call_Name_kw (ld_blt I hg hm (by decide +kernel : bootBuiltins "min" = some (.builtin "min")) ?_)
  have hA : tCons (tO b ρ (kL t) m) tNil σ H fun vs H1 => ∃ (l : Addr) (us : List V) (G1 : Hp) (xs : List α), vs = [.ref l] ∧ Grow G H G1 H1 ∧ H1 l = some (.lst us) ∧ Paired (t.rel b G1) us xs ∧ (outO b (kE t) H Q).W (minKR lt kf xs) G1 H1 :=
    ⟨G, Ie, seqO (outO b (kE t) H Q) w fun xs v G1 H1 g1 ⟨a, us, e1, h1, h2⟩ w1 => ⟨a, us, G1, xs, by rw [e1], g1, h1, h2, w1⟩⟩
  refine callWith_kw (thn ((pa_cons (ha b hk) pa_nil hs).run pos pins s σ H _ I hA) fun us s1 ⟨vs, H1, I1, r1, l, ws, G1, xs, ev, g1, hl, hp, w1⟩ => ?_) he hpl hall hnone
  rw [hks]
  subst ev
  rw [Vals.ref1 r1]
  obtain ⟨c, P, TB, hcode, hmT, huT⟩ := la.at_
  have Ie1 := Ie.grow g1
  show wpAny _ _ (evalAll [(do let v ← eval (.Lambda params body scope lp) X.env; standAt pos; pure v)]) _ _ s1
  refine wpAny_evalAll_cons (wpAny_bind (LamX.lam_make2 I1 TB hcode hmT huT Ie1.tb hdef (L.has I1.ok) fun f c' pm ctv H2 s2 I2 ex tb2 hf hfn hfr hc => ?_))
  refine wpAny_bind (wpAny_standAt (wpAny_pure (wpAny_evalAll_nil ?_)))
  have g2 : Grow G1 H1 G1 H2 := ⟨Same.refl _, ⟨ex⟩, fun a o ho => ex a o (g1.gh a o ho) fun ps z => Ie1.nt a ps (z ▸ ho), fun _ _ h => h, fun _ => tb2, id⟩
  have hfL : f ≠ X.env.locals := fun z => by
    obtain ⟨mm, ⟨oL, es, ep, hoL, hdL, _⟩, _⟩ := I2.loc
    rw [← z, hf] at hoL
    cases hoL
    cases hdL
  have hfs : f ∉ X.fs := fun z => hfr (by
    rcases I2.ok.stk with e | ⟨e, _⟩
    · rw [e]
      exact z
    · rw [e]
      have z2 : f ∈ frs X.outer := z
      unfold frs at z2 ⊢
      rw [List.filterMap_cons]
      split
      · exact z2
      · exact List.mem_cons_of_mem _ z2)
  have I3 : Inv X (pins ++ [(f, PySem.W.kla_obj "<lambda>" (X.env.qual ++ "<lambda>") params body scope (cloFrom X.env.cells scope.names []) pm c' ctv)]) σ H2 s2 := I2.pins_of fun q hq => by
    rcases List.mem_append.mp hq with hq | hq
    · exact I2.pin q (List.mem_append_right _ hq)
    · rw [List.mem_singleton.mp hq]
      exact ⟨hf, hfn, hfL, hfs, fun v z => nomatch z⟩
  refine min_key (X := X) (b := b) (t := t) (u := u) (kf := kf) (P := [(f, PySem.W.kla_obj "<lambda>" (X.env.qual ++ "<lambda>") params body scope (cloFrom X.env.cells scope.names []) pm c' ctv)]) (H1 := H2) hk.K hr.in1.units0 hr.hd (fun q hq => List.mem_append_right _ hq) ?_ (outO b (kE t) H Q) (fun x v V G' H' s' I' Ie' w' tv rv => ?_) I3 (Ie1.grow g2) (Sm.refl _) ((outO b (kE t) H Q).shift g2 w1) (g2.h.l hl) (pmap hp fun _ _ => t.mono g2.g)
  · intro pins' hP s3 G3 H3 v V x kx I4 Ie4 sm tv rV hkx
    have pf := I4.pin _ (List.mem_append_right _ (hP _ (List.mem_singleton.mpr rfl)))
    have hc3 : H3 c' = some (LamX.CodeO c' (X.env.qual ++ "<lambda>")) := sm.k _ _ hc fun ps => LamX.codeO_ne ps
    refine wpAny_mono (lam1_run (Q := fun kv H' => ∃ G', Grow G3 H3 G' H' ∧ u.rel b G' kv kx) I4 L pf.1 hc3 (fun u => hbind c' pm ctv u) hN hi rV hr.in1 (fun A outer s H E hrA => hb A outer s H E f c' hrA x b ⟨hk.K⟩) ⟨G3, Ie4.set_sh i tv, ?_⟩) (fun KV s' ⟨kv, H', I5, r5, G', g5, u5⟩ => ⟨kv, G', H', I5, r5, g5, u5⟩) fun _ _ z => z
    rw [hkx]
    exact fun kv G' H' g5 r5 => ⟨G', g5, r5⟩
  · exact ⟨v, H', I'.pins_of fun q hq => I'.pin q (List.mem_append_right _ (List.mem_append_left _ hq)), rv, EndO.give w' Ie'.gh tv⟩
theorem min_loopN {lt : α → α → Bool} [cl : Lts t lt] (hk : b.K = X.K) (hu : X.A.in1.units < cLine) (hh : X.A.handled = none) {l S It : Addr} {H1 : Hp} {vs : List V} {xs : List α} (hSI : S ≠ It) {Rr : Result → Shared → Prop} (O : Out b α)
    (fin : ∀ (x : α) (v : V) (V : Value) (G H : Hp) (s : Shared), Inv X pins σ H s → EnvOk b G H σ ρ → O.W (.ok x) G H → t.rel b G v x → RelV v V → Rr (.ok (.ret V)) s) :
    ∀ (r j : Nat) (s : Shared) (G H : Hp) (bx : α) (bk : α) (bv kv : V) (BV KV : Value) (c : Nat), xs.length - j = r → j ≤ xs.length → Inv X pins σ H s → EnvOk b G H σ ρ → Sm H1 H → O.W (bestR lt .ok bx bk (xs.drop j)) G H →
      H l = some (.lst vs) → Paired (t.rel b G) vs xs → FpOk X pins H S → FpOk X pins H It → s.heap.IsListIter It l j → s.heap.get? S = some (seqObj "list" #[BV, KV] c) → RelV bv BV → t.rel b G bv bx → RelV kv KV → t.rel b G kv bk →
      codeAny (model X.prog X.w) X.A (.builtin "min.loop" ⟨[.ref It, .none, .ref S], []⟩) Rr s := by
  intro r
  induction r with
  | zero =>
    intro j s G H bx bk bv kv BV KV c hr hj I Ie sm w hl hp fS fI hit hS rb tb rk ub
    have e : xs.drop j = [] := List.drop_of_length_le (by omega)
    rw [e] at w
    obtain ⟨its, rv, pl, hz⟩ := I.list (a := l) (xs := vs) (.inl (.inl hl))
    have hlen : its.length = xs.length := by rw [← rv.length, plen hp]
    refine codeAny_builtin PySem.F.entry_min_loop ?_
    rw [Around.under_plainId PySem.F.plain_min_loop]
    show wpAny _ X.A.in1 (seqItems? (.ref S) >>= _) _ _ s
    refine wpAny_bind (wpAny_seqItems hS rfl ?_)
    show wpAny _ X.A.in1 (tryCatch (pyNext (.ref It)) _ >>= _) _ _ s
    refine wpAny_bind (wpAny_tryCatch (wpAny_pyNext_list_end hh hit pl.isList (by rw [List.getElem?_toArray]; exact List.getElem?_eq_none (by omega)) fun h' eb => ?_))
    have I1 : Inv X pins σ H { s with heap := h' } := fp_turn (tk := s.toks) I fI fun b o hb e => eb b o hb e
    have hS1 := eb S _ hSI hS
    show wpAny _ _ (updateSeq S (fun _ => #[]) >>= _) _ _ _
    refine wpAny_bind (wpAny_updateSeq hS1 rfl (wpAny_bind (wpAny_letGo (wpAny_pure ?_))))
    have sb := Heap.SameBut.update h' S (Obj.mapSeq fun _ => (#[] : Array Value))
    exact fin bx bv BV G H _ (fp_turn (tk := s.toks) I1 fS fun b o hb e => (sb.2 b hb).trans e) Ie w tb rb
  | succ r ih =>
    intro j s G H bx bk bv kv BV KV c hr hj I Ie sm w hl hp fS fI hit hS rb tb rk ub
    have hlt : j < xs.length := by omega
    have hxj : xs[j]? = some xs[j] := List.getElem?_eq_getElem hlt
    obtain ⟨v, hv, tv⟩ := pget hp hxj
    obtain ⟨its, rv, pl, hz⟩ := I.list (a := l) (xs := vs) (.inl (.inl hl))
    obtain ⟨V, hV, rV⟩ := rv.get hv
    rw [List.drop_eq_getElem_cons hlt] at w
    have w : O.W (if lt xs[j] bk = true then bestR lt .ok xs[j] xs[j] (xs.drop (j + 1)) else bestR lt .ok bx bk (xs.drop (j + 1))) G H := w
    refine codeAny_builtin PySem.F.entry_min_loop ?_
    rw [Around.under_plainId PySem.F.plain_min_loop]
    show wpAny _ X.A.in1 (seqItems? (.ref S) >>= _) _ _ s
    refine wpAny_bind (wpAny_seqItems hS rfl ?_)
    show wpAny _ X.A.in1 (tryCatch (pyNext (.ref It)) _ >>= _) _ _ s
    refine wpAny_bind (wpAny_tryCatch (wpAny_pyNext_list_item hit pl.isList (x := V) (by rw [List.getElem?_toArray]; exact hV) fun h' hit' sb => ?_))
    have I1 : Inv X pins σ H { s with heap := h' } := fp_turn (tk := s.toks) I fI fun b o hb e => (sb.2 b hb).trans e
    have hS1 : h'.get? S = some (seqObj "list" #[BV, KV] c) := (sb.2 S hSI).trans hS
    obtain ⟨oI, hoI, hIc, hId⟩ := id hit'
    refine wpAny_bind (wpAny_pure ?_)
    show wpAny _ _ (tryCatch (holding [V, V] (richCompare .Lt V KV >>= _)) _ >>= _) _ _ _
    refine wpAny_bind (wpAny_tryCatch (wpAny_holding (wpAny_bind (cl.lt hk I1 Ie.gh tv ub rV rk hu ?_))))
    refine wpAny_bind (wpAny_holding (wpAny_truthy_bool (wpAny_bind (wpAny_letGo (wpAny_pure ?_)))))
    cases hb : lt xs[j] bk with
    | true =>
      rw [hb, if_pos rfl] at w
      show wpAny _ _ (updateSeq S (fun _ => #[V, V]) >>= _) _ _ _
      obtain ⟨c2, hc2⟩ : ∃ c2, (h'.update S (Obj.mapSeq fun _ => #[V, V])).get? S = some (seqObj "list" #[V, V] c2) := ⟨_, get?_update_seq hS1 fun _ => #[V, V]⟩
      have sb2 := Heap.SameBut.update h' S (Obj.mapSeq fun _ => #[V, V])
      refine wpAny_bind (wpAny_updateSeq hS1 rfl (wpAny_bind (wpAny_letGo (wpAny_pure ⟨plainId_quiet PySem.F.plain_min_loop _, ?_⟩))))
      exact ih (j + 1) _ G H xs[j] xs[j] v v V V c2 (by omega) hlt (fp_turn (tk := s.toks) I1 fS fun b o hb e => (sb2.2 b hb).trans e) Ie sm w hl hp fS fI
        ⟨oI, (sb2.2 It hSI.symm).trans hoI, hIc, hId⟩ hc2 rV tv rV tv
    | false =>
      rw [hb, if_neg Bool.false_ne_true] at w
      show wpAny _ _ (letGo [V, V] [] >>= _) _ _ _
      refine wpAny_bind (wpAny_letGo (wpAny_pure ⟨plainId_quiet PySem.F.plain_min_loop _, ?_⟩))
      exact ih (j + 1) _ G H bx bk bv kv BV KV c (by omega) hlt I1 Ie sm w hl hp fS fI ⟨oI, hoI, hIc, hId⟩ hS1 rb tb rk ub

/-- min of a list -/
theorem min_none {lt : α → α → Bool} [cl : Lts t lt] (hk : b.K = X.K) (hu : X.A.in1.units < cLine) (hh : X.A.handled = none) {l : Addr} {H1 : Hp} {vs : List V} {xs : List α} {Q : Value → Shared → Prop} (O : Out b α)
    (fin : ∀ (x : α) (v : V) (V : Value) (G H : Hp) (s : Shared), Inv X pins σ H s → EnvOk b G H σ ρ → O.W (.ok x) G H → t.rel b G v x → RelV v V → Q V s) {s : Shared} {G H : Hp} (I : Inv X pins σ H s) (Ie : EnvOk b G H σ ρ) (sm : Sm H1 H) (w : O.W (minKR lt .ok xs) G H)
    (hl : H l = some (.lst vs)) (hp : Paired (t.rel b G) vs xs) : wpAny (model X.prog X.w) X.A (call (.builtin "min") [.ref l]) Q E s := by
  cases xs with
  | nil => exact (O.bad w).elim
  | cons x0 xr =>
    obtain ⟨its, rv, pl, hz⟩ := I.list (a := l) (xs := vs) (.inl (.inl hl))
    have hx0 : (x0 :: xr)[0]? = some x0 := rfl
    obtain ⟨v, hv, tv⟩ := pget hp hx0
    obtain ⟨V, hV, rV⟩ := rv.get hv
    have w : O.W (bestR lt .ok x0 x0 xr) G H := w
    refine kmk_tree PySem.F.kind_min PySem.F.plain_min PySem.F.entry_min (show argsOk "min" ⟨[.ref l], []⟩ by unfold argsOk; kernel_rfl) ?_
    show wpAny _ X.A.in1 (Builtin.Builtins.bindParams "min" ["key", "default"] 0 ⟨[], []⟩ >>= _) _ _ s
    refine wpAny_bind (wpAny_of_eq (show _ = pure [none, none] from rfl) (wpAny_bind (wpAny_pure (wpAny_bind (wpAny_pyIter_list pl.isList (wpAny_bind (wpAny_newList ?_ (Nat.zero_le _))))))))
    refine wpAny_pure ⟨plainId_quiet PySem.F.plain_min_loop _, ?_⟩
    generalize hIt : s.heap.objs.size = It
    generalize hh1 : s.heap.push { cls := .type "list_iterator", data := .fields #[.ref l, .int 0 0] } = g1
    have k1 : ∀ b o, s.heap.get? b = some o → g1.get? b = some o := fun b o e => by
      rw [← hh1]
      exact push_of b o e
    have z1 : g1.objs.size = It + 1 := by
      rw [← hh1, Heap.size_push, hIt]
    have gI : g1.get? It = some { cls := .type "list_iterator", data := .fields #[.ref l, .int 0 0] } := by
      rw [← hh1, ← hIt]
      exact Heap.get?_push_size _ rfl
    have I1 : Inv X pins σ H { s with heap := g1 } := I.kept (t' := s.toks) k1
    have fI : FpOk X pins H It := I.fpOk (Nat.le_of_eq hIt) (I.hok.fresh (Nat.le_of_eq hIt))
    generalize hS : g1.objs.size = S
    generalize hh2 : g1.push { cls := .type "list", data := .seq ([] : List Value).toArray } = g2
    have k2 : ∀ b o, g1.get? b = some o → g2.get? b = some o := fun b o e => by
      rw [← hh2]
      exact push_of b o e
    have gS : g2.get? S = some (seqObj "list" #[] 0) := by
      rw [← hh2, ← hS]
      exact Heap.get?_push_size _ rfl
    have I2 : Inv X pins σ H { s with heap := g2 } := I1.kept (t' := s.toks) (h' := g2) k2
    have fS : FpOk X pins H S := I1.fpOk (Nat.le_of_eq hS) (I1.hok.fresh (Nat.le_of_eq hS))
    have hSI : S ≠ It := by
      rw [← hS, z1]
      exact Nat.succ_ne_self It
    have hit : g2.IsListIter It l 0 := ⟨_, k2 _ _ gI, rfl, rfl⟩
    obtain ⟨its2, rv2, pl2, _⟩ := I2.list (a := l) (xs := vs) (.inl (.inl hl))
    obtain ⟨V, hV, rV⟩ := rv2.get hv
    rw [show (toString "min" ++ toString ".loop" : String) = "min.loop" by decide]
    refine codeAny_builtin PySem.F.entry_min_loop ?_
    rw [Around.under_plainId PySem.F.plain_min_loop]
    show wpAny _ X.A.in1 (seqItems? (.ref S) >>= _) _ _ { s with heap := g2 }
    refine wpAny_bind (wpAny_seqItems gS rfl ?_)
    show wpAny _ X.A.in1 (tryCatch (pyNext (.ref It)) _ >>= _) _ _ { s with heap := g2 }
    refine wpAny_bind (wpAny_tryCatch (wpAny_pyNext_list_item hit pl2.isList (x := V) (by rw [List.getElem?_toArray]; exact hV) fun h' hit' sb => ?_))
    have J1 : Inv X pins σ H { s with heap := h' } := fp_turn (s := { s with heap := g2 }) (tk := s.toks) I2 fI fun b o hb e => (sb.2 b hb).trans e
    have hS1 : h'.get? S = some (seqObj "list" #[] 0) := (sb.2 S hSI).trans gS
    obtain ⟨oI, hoI, hIc, hId⟩ := id hit'
    refine wpAny_bind (wpAny_pure ?_)
    show wpAny _ _ (updateSeq S (fun _ => #[V, V]) >>= _) _ _ _
    obtain ⟨c2, hc2⟩ : ∃ c2, (h'.update S (Obj.mapSeq fun _ => #[V, V])).get? S = some (seqObj "list" #[V, V] c2) := ⟨_, get?_update_seq hS1 fun _ => #[V, V]⟩
    have sb2 := Heap.SameBut.update h' S (Obj.mapSeq fun _ => #[V, V])
    refine wpAny_bind (wpAny_updateSeq hS1 rfl (wpAny_pure ⟨plainId_quiet PySem.F.plain_min_loop _, ?_⟩))
    exact min_loopN (xs := x0 :: xr) hk hu hh hSI O fin _ 1 _ G H x0 x0 v v V V c2 rfl (by simp) (fp_turn (s := { s with heap := h' }) (tk := s.toks) J1 fS fun b o hb e => (sb2.2 b hb).trans e) Ie sm w hl hp fS fI
      ⟨oI, (sb2.2 It hSI.symm).trans hoI, hIc, hId⟩ hc2 rV tv rV tv


theorem xe_minN {lt : α → α → Bool} [cl : Lts t lt] {e : Expr} {m : R (List α)} {p pos : Pos} {k : Nat} (hr : Room (k + 1) X.A) (hg : Gl X "min") (hm : X.mg "min" = none) (ha : XO X ρ e (kL t) m)
    (hs : starEach [e] X.env = (false, eval e X.env) :: starEach [] X.env := by rfl) : XO X ρ (.Call (.Name "min" p) [e] [] pos) (kE t) (m.bind (minKR lt .ok)) := fun b hk => by
  refine ⟨fun pins s σ H Q I ⟨G, Ie, w⟩ => ?_⟩
  have hA : tCons (tO b ρ (kL t) m) tNil σ H fun vs H1 => ∃ (l : Addr) (us : List V) (G1 : Hp) (xs : List α), vs = [.ref l] ∧ Grow G H G1 H1 ∧ H1 l = some (.lst us) ∧ Paired (t.rel b G1) us xs ∧ (outO b (kE t) H Q).W (minKR lt .ok xs) G1 H1 :=
    ⟨G, Ie, seqO (outO b (kE t) H Q) w fun xs v G1 H1 g1 ⟨a, us, e1, h1, h2⟩ w1 => ⟨a, us, G1, xs, by rw [e1], g1, h1, h2, w1⟩⟩
  refine wpAny_Call_Name_kw (ld_blt I hg hm (by decide +kernel : bootBuiltins "min" = some (.builtin "min")) (PyProof.Rows.callWith_builtin1 (thn ((pa_cons (ha b hk) pa_nil hs).run pos pins s σ H _ I hA) fun us s1 ⟨vs, H1, I1, r1, l, ws, G1, xs, ev, g1, hl, hp, w1⟩ => ?_) hs rfl))
  subst ev
  rw [Vals.ref1 r1]
  exact min_none (H1 := H1) hk.K hr.in1.units0 hr.hd (outO b (kE t) H Q) (fun x v V G' H' s' I' Ie' w' tv rv => ⟨v, H', I', rv, EndO.give w' Ie'.gh tv⟩) I1 (Ie.grow g1) (Sm.refl _) w1 hl hp
end
end Tr
end
section
set_option maxRecDepth 100000
set_option maxHeartbeats 2000000
/-! Tr9: more rules: built-ins, isinstance, list ==, odd tuples, dicts of one's own. -/
namespace Tr
open PySem L2
variable [hasT : HasT] {α β γ δ τ ν κ : Type}
section
variable {X : Cx} {ρ ρ' : Env} {e e2 a b' : Expr} {es : List Expr} {pos p p2 : Pos} {nm : Str} {ma : R α} {mb : R β} {mi mj : R Int} {ts : AT τ} {ms : R τ}

/-! ### int, min, max, sorted, list, [::-1] -/
theorem boot_int : bootBuiltins "int" = some (.type "int") := by decide +kernel
theorem boot_listT : bootBuiltins "list" = some (.type "list") := by decide +kernel
theorem boot_tupleT : bootBuiltins "tuple" = some (.type "tuple") := by decide +kernel
theorem boot_boolT : bootBuiltins "bool" = some (.type "bool") := by decide +kernel
theorem boot_strT : bootBuiltins "str" = some (.type "str") := by decide +kernel
theorem boot_minB : bootBuiltins "min" = some (.builtin "min") := by decide +kernel
theorem boot_maxB : bootBuiltins "max" = some (.builtin "max") := by decide +kernel
theorem boot_sortedB : bootBuiltins "sorted" = some (.builtin "sorted") := by decide +kernel
theorem boot_isiB : bootBuiltins "isinstance" = some (.builtin "isinstance") := by decide +kernel
theorem xe_int1 (hg : Gl X "int") (hm : X.mg "int" = none) (ha : XO X ρ e (kE tInt) mi) (hs : starEach [e] X.env = (false, eval e X.env) :: starEach [] X.env := by rfl) : XO X ρ (.Call (.Name "int" p) [e] [] pos) (kE tInt) mi := by
  have h := xo_callTy1 (oa := kE tInt) (oc := kE tInt) (f := fun i => .ok i) (pos := pos) (p := p) call_int1 (fun b H0 G H v x Q hb A r w => .inl ⟨x, by rw [show v = V.int x from r], w.give A.gh rfl⟩) hg hm boot_int ha (by decide) (by decide) hs
  rw [R.bind_ok] at h
  exact h
def ofB (c : Bool) : Int := if c = true then 1 else 0
theorem xe_intB {m : R Bool} (hg : Gl X "int") (hm : X.mg "int" = none) (ha : XO X ρ e (kE tBool) m) (hs : starEach [e] X.env = (false, eval e X.env) :: starEach [] X.env := by rfl) : XO X ρ (.Call (.Name "int" p) [e] [] pos) (kE tInt) (m.bind fun c => .ok (ofB c)) :=
  xo_callTy1 (oa := kE tBool) (oc := kE tInt) call_int1 (fun b H0 G H v x Q hb A r w => .inr ⟨x, by rw [show v = V.bl x from r], w.give A.gh rfl⟩) hg hm boot_int ha (by decide) (by decide) hs
theorem xe_min2 (hca : X.calm = true) (hg : Gl X "min") (hm : X.mg "min" = none) (ha : XA X ρ (e :: es) (aCons tInt (aCons tInt aNil)) (mx : R (Int × Int × Unit))) (he : starEach (e :: es) X.env = (false, eval e X.env) :: starEach es X.env := by rfl) (hpl : (backTo pos (starEach es X.env)).any (·.1) = false := by rfl) :
    XO X ρ (.Call (.Name "min" p) (e :: es) [] pos) (kE tInt) (mx.bind fun x => .ok (min x.1 x.2.1)) :=
  xo_callB (ts := aCons tInt (aCons tInt aNil)) (oc := kE tInt) (call_min2 hca) (fun b H0 G H vs x Q hb A ⟨v1, r1, e1, h1, v2, r2, e2, h2, e3⟩ w => ⟨x.1, x.2.1, by
    rw [e1, e2, e3, show v1 = V.int x.1 from h1, show v2 = V.int x.2.1 from h2], by
    rw [show (if x.2.1 < x.1 then x.2.1 else x.1) = min x.1 x.2.1 by split <;> omega]
    exact w.give A.gh rfl⟩) hg hm boot_minB ha (by decide) (by decide) he hpl
theorem xe_max2 (hca : X.calm = true) (hg : Gl X "max") (hm : X.mg "max" = none) (ha : XA X ρ (e :: es) (aCons tInt (aCons tInt aNil)) (mx : R (Int × Int × Unit))) (he : starEach (e :: es) X.env = (false, eval e X.env) :: starEach es X.env := by rfl) (hpl : (backTo pos (starEach es X.env)).any (·.1) = false := by rfl) :
    XO X ρ (.Call (.Name "max" p) (e :: es) [] pos) (kE tInt) (mx.bind fun x => .ok (max x.1 x.2.1)) :=
  xo_callB (ts := aCons tInt (aCons tInt aNil)) (oc := kE tInt) (call_max2 hca) (fun b H0 G H vs x Q hb A ⟨v1, r1, e1, h1, v2, r2, e2, h2, e3⟩ w => ⟨x.1, x.2.1, by
    rw [e1, e2, e3, show v1 = V.int x.1 from h1, show v2 = V.int x.2.1 from h2], by
    rw [show (if x.2.1 > x.1 then x.2.1 else x.1) = max x.1 x.2.1 by split <;> omega]
    exact w.give A.gh rfl⟩) hg hm boot_maxB ha (by decide) (by decide) he hpl
def sortI (xs : List Int) : List Int := xs.mergeSort fun x y => decide (x ≤ y)
theorem sortI_perm (xs : List Int) : (sortI xs).Perm xs := List.mergeSort_perm _ _
theorem sortI_pw (xs : List Int) : (sortI xs).Pairwise (· ≤ ·) := by
  have h := List.pairwise_mergeSort (le := fun x y : Int => decide (x ≤ y)) (fun a b c h1 h2 => by
    simp only [decide_eq_true_eq] at *
    omega) (fun a b => by
    simp only [Bool.or_eq_true, decide_eq_true_eq]
    omega) xs
  exact h.imp fun h => of_decide_eq_true h
theorem sortI_eq {xs ys : List Int} (h1 : ys.Perm xs) (h2 : ys.Pairwise (· ≤ ·)) : ys = sortI xs :=
  List.Perm.eq_of_pairwise (fun a b _ _ q1 q2 => Int.le_antisymm q1 q2) h2 (sortI_pw xs) (h1.trans (sortI_perm xs).symm)
theorem xf_sorted {m : R (List Int)} (hg : Gl X "sorted") (hm : X.mg "sorted" = none) (ha : XO X ρ e (kL tInt) m) (hs : starEach [e] X.env = (false, eval e X.env) :: starEach [] X.env := by rfl) : XO X ρ (.Call (.Name "sorted" p) [e] [] pos) (kF tInt) (m.bind fun xs => .ok (sortI xs)) :=
  xo_callB1 (oa := kL tInt) (oc := kF tInt) cr_sortedI (fun b H0 G H v x Q hb A ⟨a, vs, e, h, r⟩ w => ⟨a, x, by rw [e], by
    rw [← ints_of r]
    exact .inl (.inl h), fun ns' q hp hw hq => by
    rw [sortI_eq hp hw]
    exact w.giveN A.gh hq ⟨q, _, rfl, A.hh.free hq, A.gh.free hq, upd_same, of_ints _⟩⟩) hg hm boot_sortedB ha (by decide) (by decide) hs
theorem xf_list {t : Ty α} {m : R (List α)} (hg : Gl X "list") (hm : X.mg "list" = none) (ha : XO X ρ e (kL t) m) (hs : starEach [e] X.env = (false, eval e X.env) :: starEach [] X.env := by rfl) : XO X ρ (.Call (.Name "list" p) [e] [] pos) (kF t) m := by
  have h := xo_callTy1 (oa := kL t) (oc := kF t) (f := fun xs => .ok xs) (pos := pos) (p := p) call_list_of (fun b H0 G H v x Q hb A ⟨a, vs, e, h, r⟩ w => ⟨a, vs, by rw [e], .inl (.inl (.inl h)), fun q hq => w.giveN A.gh hq ⟨q, _, rfl, A.hh.free hq, A.gh.free hq, upd_same, r⟩⟩) hg hm boot_listT ha (by decide) (by decide) hs
  rw [R.bind_ok] at h
  exact h
theorem xf_rev {t : Ty α} {m : R (List α)} {k : Nat} {p1 p3 : Pos} (ha : XO X ρ a (kL t) m) : XO X ρ (.Subscript a (.Slice none none (some (.UnaryOp .USub (.Constant (.int 1) k p1) p2)) p3) pos) (kF t) (m.bind fun xs => .ok xs.reverse) := fun b hk =>
  pe_imp (pe_revL (ha b hk)) fun σ H Q ⟨G, I, w⟩ => ⟨G, I, seqO (outO b (kF t) H Q) w fun xs v G1 H1 g1 ⟨q, vs, e, h, r⟩ w1 => ⟨q, vs, e, .inl (.inl h), fun z hz =>
    EndO.giveN w1 g1.gh hz ⟨z, _, rfl, g1.h.free hz, g1.gh.free hz, upd_same, prev r⟩⟩⟩

/-! ### conversions item by item -/
structure CvT (t : Ty α) (t' : Ty β) (f : α → β) : Prop where
  s : ∀ {b : Bs} {G : Hp} {v : V} {x : α}, t.rel b G v x → t'.rel b G v (f x)
theorem cvt_some {t : Ty α} [Nn t] : CvT t (tOpt t) some := ⟨fun h => .inr ⟨Nn.nn h, _, rfl, h⟩⟩
theorem cvt_none {t : Ty α} : CvT tNone (tOpt t) fun _ => (none : Option α) := ⟨fun h => .inl ⟨h, rfl⟩⟩
theorem pmapF {F : V → α → Prop} {F' : V → β → Prop} {f : α → β} : ∀ {l : List V} {m : List α}, Paired F l m → (∀ a b, F a b → F' a (f b)) → Paired F' l (m.map f)
  | _, _, .nil, _ => .nil
  | _, _, .cons r t, h => .cons (h _ _ r) (pmapF t h)
theorem cvt_N {t : Ty α} {t' : Ty β} {f : α → β} (h : CvT t t' f) : CvT (tListN t) (tListN t') (List.map f) := ⟨fun ⟨a, vs, e, n, q, p⟩ => ⟨a, vs, e, n, q, pmapF p fun _ _ => h.s⟩⟩
theorem cvt_L {t : Ty α} {t' : Ty β} {f : α → β} (h : CvT t t' f) : CvT (tList t) (tList t') (List.map f) := ⟨fun ⟨a, vs, e, q, p⟩ => ⟨a, vs, e, q, pmapF p fun _ _ => h.s⟩⟩
theorem cv_T {t : Ty α} {t' : Ty β} {f : α → β} (h : CvT t t' f) : Cv (kE t) (kE t') f := ⟨fun _ _ r => h.s r⟩
theorem cv_LT {t : Ty α} {t' : Ty β} {f : α → β} (h : CvT t t' f) : Cv (kL t) (kL t') (List.map f) := ⟨fun _ _ ⟨a, vs, e, q, p⟩ => ⟨a, vs, e, q, pmapF p fun _ _ => h.s⟩⟩
theorem cv_FT {t : Ty α} {t' : Ty β} {f : α → β} (h : CvT t t' f) : Cv (kF t) (kF t') (List.map f) := ⟨fun _ _ ⟨a, vs, e, h0, h1, q, p⟩ => ⟨a, vs, e, h0, h1, q, pmapF p fun _ _ => h.s⟩⟩

/-! ### isinstance -/
class HasTy (o : Kd α) (n : outParam String) : Prop where
  hty : ∀ {b : Bs} {H0 G H : Hp} {v : V} {x : α}, Same G H → o.rel b H0 G H v x → TyX b.K H v (.type n)
theorem tyx_tup {K : PySem.W.Frag} {H : Hp} {a : Addr} {vs : List V} (h : SqT K H a vs) : TyX K H (.ref a) (.type "tuple") := by
  rcases h with (h | ⟨o, h⟩) | ⟨o, its, n, h1, h2, _⟩
  · exact .base (.tup h)
  · exact .fTuple h
  · exact .kTuple h1 h2
instance : HasTy (kE tInt) "int" := ⟨fun {b H0 G H v x} _ r => by
  rw [show v = V.int x from r]
  exact .base (.int _)⟩
instance : HasTy (kE tBool) "bool" := ⟨fun {b H0 G H v x} _ r => by
  rw [show v = V.bl x from r]
  exact .base (.bl _)⟩
instance : HasTy (kE tStr) "str" := ⟨fun {b H0 G H v x} _ r => by
  rw [show v = V.str x from r]
  exact .base (.str _)⟩
instance : HasTy (kE tNone) "NoneType" := ⟨fun {b H0 G H v x} _ r => by
  rw [show v = V.non from r]
  exact .base .non⟩
instance (t : Ty α) : HasTy (kE (tList t)) "list" := ⟨fun s ⟨a, vs, e, h, _⟩ => by
  rw [e]
  exact .base (.lst (s _ _ h))⟩
instance (t : Ty α) : HasTy (kE (tListN t)) "list" := ⟨fun s ⟨a, vs, e, _, h, _⟩ => by
  rw [e]
  exact .base (.lst (s _ _ h))⟩
instance (t : Ty α) : HasTy (kL t) "list" := ⟨fun s ⟨a, vs, e, h, _⟩ => by
  rw [e]
  exact .base (.lst h)⟩
instance (t : Ty α) : HasTy (kE (tTupL t)) "tuple" := ⟨fun s ⟨a, vs, e, h, _⟩ => by
  rw [e]
  exact tyx_tup (seqT s h)⟩
instance (t : AT τ) : HasTy (kE (tT t)) "tuple" := ⟨fun s ⟨a, vs, e, h, _⟩ => by
  rw [e]
  exact tyx_tup (seqT s h)⟩
theorem isi_at {o : Kd α} {f : α → R Bool} {T : String} (ht : ∀ {b : Bs} {H0 G H : Hp} {v : V} {x : α} {r : Bool}, Same G H → o.rel b H0 G H v x → f x = .ok r → ∃ n, TyX b.K H v (.type n) ∧ kitB n T = some r) (hf : ∀ x, f x ≠ .bad → ∃ r, f x = .ok r) (hg : Gl X "isinstance") (hm : X.mg "isinstance" = none) (hgT : Gl X nm) (hmT : X.mg nm = none) (hT : bootBuiltins nm = some (.type T)) (ha : XO X ρ e o ma)
    (hn : nm ≠ "__name__" := by decide) (hd : (nm == ("__debug__" : Str)) = false := by decide) (hs : starEach [e, .Name nm p2] X.env = (false, eval e X.env) :: starEach [.Name nm p2] X.env := by rfl) (hs2 : starEach [.Name nm p2] X.env = (false, eval (.Name nm p2) X.env) :: starEach [] X.env := by rfl) (hpl : (backTo pos (starEach [.Name nm p2] X.env)).any (·.1) = false := by rfl) :
    XO X ρ (.Call (.Name "isinstance" p) [e, .Name nm p2] [] pos) (kE tBool) (ma.bind f) := fun b hk =>
  pe_imp (pe_callB call_isi hg hm boot_isiB (pa_cons (ha b hk) (pa_cons (pe_bltn (v := .ty T) hgT hmT hT rfl hn hd) pa_nil hs2) hs) (by decide) (by decide) hs hpl) fun σ H Q ⟨G, I, w⟩ =>
  ⟨G, I, seqO (outO b (kE tBool) H Q) w fun x v G1 H1 g1 r1 w1 => by
    have hb : f x ≠ .bad := fun z => by
      have w2 : EndO b (kE tBool) (f x) H G1 H1 Q := w1
      rw [z] at w2
      exact w2
    obtain ⟨r, hr⟩ := hf x hb
    obtain ⟨n, h1, h2⟩ := ht g1.gh r1 hr
    rw [hk.K] at h1
    refine ⟨v, .ty T, .type n, .type T, r, rfl, .ty T, h1, kit_ty h2, ?_⟩
    have w2 : EndO b (kE tBool) (f x) H G1 H1 Q := w1
    rw [hr] at w2
    exact w2.give g1.gh rfl⟩
/-- .. of one type -/
theorem xe_isi {o : Kd α} {n T : String} [q : HasTy o n] (r : Bool) (hq : kitB n T = some r) (hg : Gl X "isinstance") (hm : X.mg "isinstance" = none) (hgT : Gl X nm) (hmT : X.mg nm = none) (hT : bootBuiltins nm = some (.type T)) (ha : XO X ρ e o ma)
    (hn : nm ≠ "__name__" := by decide) (hd : (nm == ("__debug__" : Str)) = false := by decide) (hs : starEach [e, .Name nm p2] X.env = (false, eval e X.env) :: starEach [.Name nm p2] X.env := by rfl) (hs2 : starEach [.Name nm p2] X.env = (false, eval (.Name nm p2) X.env) :: starEach [] X.env := by rfl) (hpl : (backTo pos (starEach [.Name nm p2] X.env)).any (·.1) = false := by rfl) :
    XO X ρ (.Call (.Name "isinstance" p) [e, .Name nm p2] [] pos) (kE tBool) (ma.bind fun _ => .ok r) :=
  isi_at (f := fun _ => .ok r) (fun s h e => ⟨n, q.hty s h, by cases e; exact hq⟩) (fun _ _ => ⟨r, rfl⟩) hg hm hgT hmT hT ha hn hd hs hs2 hpl
/-- .. None or of one type -/
theorem xe_isiO {t : Ty α} {m : R (Option α)} {n T : String} [q : HasTy (kE t) n] (r0 r : Bool) (hq0 : kitB "NoneType" T = some r0) (hq : kitB n T = some r) (hg : Gl X "isinstance") (hm : X.mg "isinstance" = none) (hgT : Gl X nm) (hmT : X.mg nm = none) (hT : bootBuiltins nm = some (.type T)) (ha : XO X ρ e (kE (tOpt t)) m)
    (hn : nm ≠ "__name__" := by decide) (hd : (nm == ("__debug__" : Str)) = false := by decide) (hs : starEach [e, .Name nm p2] X.env = (false, eval e X.env) :: starEach [.Name nm p2] X.env := by rfl) (hs2 : starEach [.Name nm p2] X.env = (false, eval (.Name nm p2) X.env) :: starEach [] X.env := by rfl) (hpl : (backTo pos (starEach [.Name nm p2] X.env)).any (·.1) = false := by rfl) :
    XO X ρ (.Call (.Name "isinstance" p) [e, .Name nm p2] [] pos) (kE tBool) (m.bind fun x => .ok (if x.isNone = true then r0 else r)) :=
  isi_at (o := kE (tOpt t)) (f := fun x => .ok (if x.isNone = true then r0 else r)) (fun {b H0 G H v x c} s h e => by
    rcases h with ⟨e1, e2⟩ | ⟨_, y, e2, h⟩
    · subst e2
      cases e
      rw [e1]
      exact ⟨_, .base .non, hq0⟩
    · subst e2
      cases e
      exact ⟨n, q.hty (H0 := H0) s h, hq⟩) (fun x _ => ⟨_, rfl⟩) hg hm hgT hmT hT ha hn hd hs hs2 hpl
/-- .. one of two types -/
theorem xe_isiS {t : Ty α} {u : Ty β} {m : R (α ⊕ β)} {n n' T : String} [q : HasTy (kE t) n] [q' : HasTy (kE u) n'] (r r' : Bool) (hq : kitB n T = some r) (hq' : kitB n' T = some r') (hg : Gl X "isinstance") (hm : X.mg "isinstance" = none) (hgT : Gl X nm) (hmT : X.mg nm = none) (hT : bootBuiltins nm = some (.type T)) (ha : XO X ρ e (kE (tSum t u)) m)
    (hn : nm ≠ "__name__" := by decide) (hd : (nm == ("__debug__" : Str)) = false := by decide) (hs : starEach [e, .Name nm p2] X.env = (false, eval e X.env) :: starEach [.Name nm p2] X.env := by rfl) (hs2 : starEach [.Name nm p2] X.env = (false, eval (.Name nm p2) X.env) :: starEach [] X.env := by rfl) (hpl : (backTo pos (starEach [.Name nm p2] X.env)).any (·.1) = false := by rfl) :
    XO X ρ (.Call (.Name "isinstance" p) [e, .Name nm p2] [] pos) (kE tBool) (m.bind fun x => .ok (if x.isLeft = true then r else r')) :=
  isi_at (o := kE (tSum t u)) (f := fun x => .ok (if x.isLeft = true then r else r')) (fun {b H0 G H v x c} s h e => by
    cases x with
    | inl y =>
      cases e
      exact ⟨n, q.hty (H0 := H0) s h, hq⟩
    | inr y =>
      cases e
      exact ⟨n', q'.hty (H0 := H0) s h, hq'⟩) (fun x _ => ⟨_, rfl⟩) hg hm hgT hmT hT ha hn hd hs hs2 hpl
/-- x is None, x never None -/
theorem o2_isNn {t : Ty α} [Nn t] : Op2 X (fun x y H Q => y = .non ∧ Q (.bl (decide (x = .non))) H) (kE t) (kE tNone) (kE tBool) fun x _ => .ok false := fun b H0 G H vx vy x y Q hb A r1 r2 w =>
  ⟨r2, by
    rw [show decide (vx = V.non) = false from decide_eq_false (Nn.nn r1)]
    exact w.give A.gh rfl⟩
theorem xt_isNn {t : Ty α} [Nn t] {j : Nat} (ha : XO X ρ a (kE t) ma) : XT X ρ (.Compare a [.Is] [.Constant .none j p] pos) (ma.bind fun _ => .ok false) := xt_cmp op_isN o2_isNn (nomark _) ha xe_non
theorem xe_isNn {t : Ty α} [Nn t] {j : Nat} (ha : XO X ρ a (kE t) ma) : XO X ρ (.Compare a [.Is] [.Constant .none j p] pos) (kE tBool) (ma.bind fun _ => .ok false) := xo_cmp op_isN o2_isNn (nomark _) ha xe_non

/-! ### len of a tuple of a known length; tuples of another length -/
theorem xe_lenK (n : Nat) (hz : ∀ (b : Bs) (G : Hp) vs x, ts.rel b G vs x → vs.length = n) (hg : Gl X "len") (hm : X.mg "len" = none) (ha : XO X ρ e (kE (tT ts)) ms) (hs : starEach [e] X.env = (false, eval e X.env) :: starEach [] X.env := by rfl) : XO X ρ (.Call (.Name "len" p) [e] [] pos) (kE tInt) (ms.bind fun _ => .ok (n : Int)) :=
  xo_callB1 (oa := kE (tT ts)) call_len_seq (fun b H0 G H v x Q hb A ⟨a, vs, e, h, r⟩ w => ⟨a, vs, by rw [e], .inr (by
    rw [← hb]
    exact seqT A.gh h), by
    rw [hz _ _ _ _ r]
    exact w.give A.gh rfl⟩) hg hm PySem.boot_len ha (by decide) (by decide) hs
/-- a tuple of n fields, or a tuple of another length -/
def tOdd (n : Nat) (ts : AT τ) : Ty (Option τ) := ⟨fun b G v x => match x with
    | some y => (tT ts).rel b G v y
    | none => ∃ a vs, v = .ref a ∧ SqT b.K G a vs ∧ vs.length ≠ n,
  fun {_ _ _ _ x} s h => match x, h with
    | some _, h => (tT ts).mono s h
    | none, ⟨a, vs, e, h, l⟩ => ⟨a, vs, e, seqT s h, l⟩,
  fun {_ _ _ _ x} k n h => match x, h with
    | some _, h => (tT ts).up k n h
    | none, ⟨a, vs, e, h, l⟩ => ⟨a, vs, e, k ▸ h, l⟩⟩
instance (n : Nat) (ts : AT τ) [PuA ts] : Pu (tOdd n ts) := ⟨fun {_ _ _ _ x} k h => match x, h with
  | some _, h => Pu.pu (t := tT ts) k h
  | none, ⟨a, vs, e, h, l⟩ => ⟨a, vs, e, k ▸ h, l⟩⟩
theorem cvt_odd {n : Nat} {ts ts' : AT τ} (h : SubA ts ts') : CvT (tT ts) (tOdd n ts') some := ⟨fun ⟨a, vs, e, q, r⟩ => ⟨a, vs, e, q, h.s r⟩⟩
theorem sub_odd {n : Nat} {ts ts' : AT τ} (h : SubA ts ts') : Sub (tOdd n ts) (tOdd n ts') := ⟨fun {b G v x} q => match x, q with
  | some _, ⟨a, vs, e, q, r⟩ => ⟨a, vs, e, q, h.s r⟩
  | none, q => q⟩
theorem cp_odd {n : Nat} : Cp (kE (tOdd n ts)) (kE (tT ts)) id := ⟨fun {b H0 G H v x y} _ _ e h => by
  rw [show x = some y from e] at h
  exact h⟩
def kOdd (n : Nat) : Kd (Option τ) := ⟨fun b _ _ _ v x => ∃ i : Int, v = .int i ∧ decide (i = n) = x.isSome, fun _ h => h, fun _ h => h, fun _ _ h => h⟩
def kIs (i : Int) : Kd Unit := ⟨fun _ _ _ _ v _ => v = .int i, fun _ h => h, fun _ h => h, fun _ _ h => h⟩
/-- len(x) != n -/
theorem xt_lenOdd {m : R (Option τ)} {n : Nat} {j : Nat} {p3 : Pos} (hz : ∀ (b : Bs) (G : Hp) vs x, ts.rel b G vs x → vs.length = n) (hg : Gl X "len") (hm : X.mg "len" = none) (ha : XO X ρ e (kE (tOdd n ts)) m) (hs : starEach [e] X.env = (false, eval e X.env) :: starEach [] X.env := by rfl) :
    XT X ρ (.Compare (.Call (.Name "len" p) [e] [] pos) [.NotEq] [.Constant (.int (n : Int)) j p2] p3) (m.bind fun x => .ok x.isNone) := by
  have key : XO X ρ (.Call (.Name "len" p) [e] [] pos) (kOdd n) m := by
    have h := xo_callB1 (X := X) (oa := kE (tOdd n ts)) (oc := kOdd n) (f := fun x => .ok x) (pos := pos) (p := p) call_len_seq (fun b H0 G H v x Q hb A r w => by
      cases x with
      | none =>
        obtain ⟨a, vs, e, h, l⟩ := r
        exact ⟨a, vs, by rw [e], .inr (by
          rw [← hb]
          exact seqT A.gh h), w.give A.gh ⟨_, rfl, decide_eq_false (by omega)⟩⟩
      | some y =>
        obtain ⟨a, vs, e, h, l⟩ := r
        exact ⟨a, vs, by rw [e], .inr (by
          rw [← hb]
          exact seqT A.gh h), w.give A.gh ⟨_, rfl, decide_eq_true (by
          have := hz _ _ _ _ l
          omega)⟩⟩) hg hm PySem.boot_len ha (by decide) (by decide) hs
    rw [R.bind_ok] at h
    exact h
  have k2 : XO X ρ (.Constant (.int (n : Int)) j p2) (kIs (n : Int)) (.ok ()) := fun b hk => pe_imp pe_int fun σ H Q ⟨G, I, w⟩ => w.give I.gh rfl
  exact xt_cmp (oa := kOdd n) (ob := kIs (n : Int)) (f := fun x _ => .ok x.isNone) op_ne (fun b H0 G H vx vy x y Q hb A ⟨i, e1, e2⟩ r2 w => by
    rw [e1, show vy = V.int n from r2]
    refine ⟨rfl, ?_⟩
    rw [dec_int, Bool.beq_eq_decide_eq, e2, show (!x.isSome) = x.isNone by cases x <;> rfl]
    exact w.give A.gh rfl) (nomark _) key k2
/-- a slice of a tuple, of another length -/
theorem xe_cutOdd {n m lo hi : Nat} {us : AT δ} {j1 j2 : Nat} {p3 p4 p5 : Pos} (hz : ∀ (b : Bs) (G : Hp) vs x, ts.rel b G vs x → vs.length = m) (hlt : lo ≤ hi) (hle : hi ≤ m) (hn : hi - lo ≠ n) (hw : hi - lo < m) (ha : XO X ρ a (kE (tT ts)) ms) :
    XO X ρ (.Subscript a (.Slice (some (.Constant (.int (lo : Int)) j1 p3)) (some (.Constant (.int (hi : Int)) j2 p4)) none p5) pos) (kE (tOdd n us)) (ms.bind fun _ => .ok none) := fun b hk =>
  pe_imp (pe_slice sl_tup (ha b hk) (po_some pe_int) (po_some pe_int)) fun σ H Q ⟨G, I, w⟩ => ⟨G, I, seqO (outO b (kE (tOdd n us)) H Q) w fun x v G1 H1 g1 ⟨q, vs, e, h, r⟩ w1 => by
    have hl := hz _ _ _ _ r
    have h1 : HT.sIx vs.length 0 (some (lo : Int)) = lo := by
      rw [hl, HT.sIx_nat]
      omega
    have h2 : HT.sIx vs.length vs.length (some (hi : Int)) = hi := by
      rw [hl, HT.sIx_nat]
      omega
    refine ⟨_, rfl, _, rfl, q, vs, e, by
      rw [← hk.K]
      exact seqT g1.gh h, by
      rw [h1, h2]
      omega, fun z hz' => EndO.giveF w1 g1.gh hz' ⟨z, _, rfl, .inl (.inl upd_same), ?_⟩⟩
    unfold cutV
    rw [h1, h2, List.length_take, List.length_drop, hl]
    omega⟩
/-- t + (..), longer than n -/
theorem xe_catOdd {n m k : Nat} {us : AT δ} {vs' : AT β} {mv : R β} (hz : ∀ (b : Bs) (G : Hp) vs x, ts.rel b G vs x → vs.length = m) (hz2 : ∀ (b : Bs) (G : Hp) vs x, vs'.rel b G vs x → vs.length = k) (hm : 0 < m) (hk : 0 < k) (hn : m + k ≠ n) (hle : m + k ≤ 1000) (ha : XO X ρ a (kE (tT ts)) ms) (hb : XO X ρ b' (kE (tT vs')) mv) :
    XO X ρ (.BinOp a .Add b' pos) (kE (tOdd n us)) (ms.bind fun _ => mv.bind fun _ => .ok none) :=
  xo_op2 (oa := kE (tT ts)) (ob := kE (tT vs')) op_catT (fun b H0 G H vx vy x y Q hb A ⟨p, vs, e, h, r⟩ ⟨q, us', e2, h2, r2⟩ w => by
    have l1 := hz _ _ _ _ r
    have l2 := hz2 _ _ _ _ r2
    refine ⟨p, q, vs, us', e, e2, by
      rw [← hb]
      exact seqT A.gh h, by
      rw [← hb]
      exact seqT A.gh h2, fun z => ?_, ?_, fun z => ?_, fun _ z hz' => EndO.giveF w A.gh hz' ⟨z, _, rfl, .inl (.inl upd_same), ?_⟩⟩
    · rw [z] at l1
      exact absurd l1 (by
        simp only [List.length_nil]
        omega)
    · have := sizeLine_eq
      omega
    · rw [z] at l2
      exact absurd l2 (by
        simp only [List.length_nil]
        omega)
    · rw [List.length_append]
      omega) ha hb

/-! ### == of data -/
class DpT (t : Ty α) (d : outParam (α → PyData)) : Prop where
  dp : ∀ {b : Bs} {G : Hp} {v : V} {x : α}, t.rel b G v x → Dp b.K G v (d x)
class DpA (t : AT τ) (d : outParam (τ → List PyData)) : Prop where
  dp : ∀ {b : Bs} {G : Hp} {vs : List V} {x : τ}, t.rel b G vs x → DpAll b.K G vs (d x)
instance : DpT tInt PyData.int := ⟨fun {b G v x} r => by
  rw [show v = V.int x from r]
  exact .int _⟩
instance : DpT tBool PyData.bool := ⟨fun {b G v x} r => by
  rw [show v = V.bl x from r]
  exact .bl _⟩
instance : DpT tStr PyData.str := ⟨fun {b G v x} r => by
  rw [show v = V.str x from r]
  exact .str _⟩
instance : DpT tNone (fun _ => PyData.none) := ⟨fun {b G v x} r => by
  rw [show v = V.non from r]
  exact .non⟩
instance : DpT tD id := ⟨fun r => r⟩
theorem dpAll_of {t : Ty α} {d : α → PyData} [q : DpT t d] {b : Bs} {G : Hp} : ∀ {vs : List V} {xs : List α}, Paired (t.rel b G) vs xs → DpAll b.K G vs (xs.map d)
  | _, _, .nil => .nil
  | _, _, .cons r p => .cons (q.dp r) (dpAll_of p)
def optD (d : α → PyData) (x : Option α) : PyData := match x with
  | some y => d y
  | none => .none
def sumD (d : α → PyData) (e : β → PyData) (x : α ⊕ β) : PyData := match x with
  | .inl y => d y
  | .inr y => e y
instance (t : Ty α) (d : α → PyData) [q : DpT t d] : DpT (tOpt t) (optD d) := ⟨fun {b G v x} r => by
  rcases r with ⟨e1, e2⟩ | ⟨_, y, e, r⟩
  · rw [e1, e2]
    exact .non
  · rw [e]
    exact q.dp r⟩
instance (t : Ty α) (u : Ty β) (d : α → PyData) (e : β → PyData) [q : DpT t d] [q' : DpT u e] : DpT (tSum t u) (sumD d e) := ⟨fun {b G v x} r => match x, r with
  | .inl _, r => q.dp r
  | .inr _, r => q'.dp r⟩
def listD (d : α → PyData) (xs : List α) : PyData := .list (xs.map d)
def tupD (d : α → List PyData) (x : α) : PyData := .tuple (d x)
instance (t : Ty α) (d : α → PyData) [q : DpT t d] : DpT (tList t) (listD d) := ⟨fun ⟨a, vs, e, h, p⟩ => by
  rw [e]
  exact .lst (.inl (.inl h)) (dpAll_of p)⟩
instance (t : Ty α) (d : α → PyData) [q : DpT t d] : DpT (tListN t) (listD d) := ⟨fun ⟨a, vs, e, _, h, p⟩ => by
  rw [e]
  exact .lst (.inl (.inl h)) (dpAll_of p)⟩
instance (t : Ty α) (d : α → PyData) [q : DpT t d] : DpT (tTupL t) (fun xs => .tuple (xs.map d)) := ⟨fun ⟨a, vs, e, h, p⟩ => by
  rw [e]
  exact .tup h (dpAll_of p)⟩
instance (t : AT τ) (d : τ → List PyData) [q : DpA t d] : DpT (tT t) (tupD d) := ⟨fun ⟨a, vs, e, h, p⟩ => by
  rw [e]
  exact .tup h (q.dp p)⟩
def nilD (_ : Unit) : List PyData := []
def consD (d : α → PyData) (e : τ → List PyData) (x : α × τ) : List PyData := d x.1 :: e x.2
instance : DpA aNil nilD := ⟨fun {b G vs x} r => by
  rw [show vs = [] from r]
  exact .nil⟩
instance (t : Ty α) (ts : AT τ) (d : α → PyData) (e : τ → List PyData) [q : DpT t d] [q' : DpA ts e] : DpA (aCons t ts) (consD d e) := ⟨fun ⟨v, r, e, h1, h2⟩ => by
  rw [e]
  exact .cons (q.dp h1) (q'.dp h2)⟩
/-- kinds that are data as the heap stands -/
class DpK (o : Kd α) (d : outParam (α → PyData)) : Prop where
  dp : ∀ {b : Bs} {H0 G H : Hp} {v : V} {x : α}, Same G H → o.rel b H0 G H v x → Dp b.K H v (d x)
instance (t : Ty α) (d : α → PyData) [q : DpT t d] : DpK (kE t) d := ⟨fun {b H0 G H v x} s r => tD.mono (b := b) s (q.dp (b := b) r)⟩
instance (t : Ty α) (d : α → PyData) [q : DpT t d] : DpK (kP t) d := ⟨fun {b H0 G H v x} s r => tD.mono (b := b) (nt_same H) (q.dp (b := b) r)⟩
instance (t : Ty α) (d : α → PyData) [q : DpT t d] : DpK (kL t) (listD d) := ⟨fun {b H0 G H v x} s ⟨a, vs, e, h, p⟩ => by
  rw [e]
  exact .lst (.inl (.inl h)) (dpAll_of (t := t) (pmap p fun _ _ => t.mono s))⟩
instance (t : Ty α) (d : α → PyData) [q : DpT t d] : DpK (kF t) (listD d) := ⟨fun {b H0 G H v x} s ⟨a, vs, e, _, _, h, p⟩ => by
  rw [e]
  exact .lst (.inl (.inl h)) (dpAll_of (t := t) (pmap p fun _ _ => t.mono s))⟩
def eqR (x y : PyData) : R Bool := (guardR (SeqAt.shaped x && SeqAt.shaped y)).bind fun _ => .ok (PyData.eqv x y)
def neR (x y : PyData) : R Bool := (guardR (SeqAt.shaped x && SeqAt.shaped y)).bind fun _ => .ok (!PyData.eqv x y)
section
variable {oa : Kd α} {ob : Kd β} {d : α → PyData} {d' : β → PyData} [q : DpK oa d] [q' : DpK ob d'] {k : Nat}
theorem o2_eqD : Op2 X (rEqD X.K) oa ob (kE tBool) fun x y => eqR (d x) (d' y) := fun b H0 G H vx vy x y Q hb A r1 r2 w => by
  obtain ⟨c, w⟩ := w.guard
  rw [Bool.and_eq_true] at c
  rw [← hb]
  exact ⟨_, _, q.dp A.gh r1, q'.dp A.gh r2, c.1, c.2, w.give A.gh rfl⟩
theorem o2_neD : Op2 X (rNeD X.K) oa ob (kE tBool) fun x y => neR (d x) (d' y) := fun b H0 G H vx vy x y Q hb A r1 r2 w => by
  obtain ⟨c, w⟩ := w.guard
  rw [Bool.and_eq_true] at c
  rw [← hb]
  exact ⟨_, _, q.dp A.gh r1, q'.dp A.gh r2, c.1, c.2, w.give A.gh rfl⟩
theorem xe_eqD (hr : Room k X.A) (ha : XO X ρ a oa ma) (hb : XO X ρ b' ob mb) : XO X ρ (.Compare a [.Eq] [b'] pos) (kE tBool) (ma.bind fun x => mb.bind fun y => eqR (d x) (d' y)) := xo_cmp (op_eqD hr.units) o2_eqD (nomark _) ha hb
theorem xe_neD (hr : Room k X.A) (ha : XO X ρ a oa ma) (hb : XO X ρ b' ob mb) : XO X ρ (.Compare a [.NotEq] [b'] pos) (kE tBool) (ma.bind fun x => mb.bind fun y => neR (d x) (d' y)) := xo_cmp (op_neD hr.units) o2_neD (nomark _) ha hb
theorem xt_eqD (hr : Room k X.A) (ha : XO X ρ a oa ma) (hb : XO X ρ b' ob mb) : XT X ρ (.Compare a [.Eq] [b'] pos) (ma.bind fun x => mb.bind fun y => eqR (d x) (d' y)) := xt_cmp (op_eqD hr.units) o2_eqD (nomark _) ha hb
theorem xt_neD (hr : Room k X.A) (ha : XO X ρ a oa ma) (hb : XO X ρ b' ob mb) : XT X ρ (.Compare a [.NotEq] [b'] pos) (ma.bind fun x => mb.bind fun y => neR (d x) (d' y)) := xt_cmp (op_neD hr.units) o2_neD (nomark _) ha hb
end
end
end Tr
end
section
set_option maxRecDepth 100000
set_option maxHeartbeats 2000000
/-! Tr10: dicts of one's own, tests known ahead, states with a gap, blocks and lists that are spoiled. -/
namespace Tr
open PySem L2
variable [hasT : HasT] {α β γ δ τ ν κ : Type}

/-! ### dicts -/
class KeyT (t : Ty κ) (f : outParam (κ → Key)) : Prop where
  key : ∀ {b : Bs} {G : Hp} {v : V} {x : κ}, t.rel b G v x → v = kV (f x)
instance : KeyT tInt Sum.inl := ⟨fun h => h⟩
instance : KeyT tStr Sum.inr := ⟨fun h => h⟩
def EntR (t : Ty α) (b : Bs) (G : Hp) (p : Key × V) (q : Key × α) : Prop := p.1 = q.1 ∧ t.rel b G p.2 q.2
def getD (xs : List (Key × α)) (k : Key) : Option α := (xs.find? fun kv => decide (kv.1 = k)).map (·.2)
def putD (xs : List (Key × α)) (k : Key) (x : α) : List (Key × α) :=
  if (getD xs k).isSome = true then xs.map (fun kv => if kv.1 = k then (kv.1, x) else kv) else xs ++ [(k, x)]
theorem get_pair {t : Ty α} {b : Bs} {G : Hp} {k : Key} : ∀ {vs : List (Key × V)} {xs : List (Key × α)}, Paired (EntR t b G) vs xs → (valV vs k = none ∧ getD xs k = none) ∨ ∃ v x, valV vs k = some v ∧ getD xs k = some x ∧ t.rel b G v x
  | _, _, .nil => .inl ⟨rfl, rfl⟩
  | p :: vs, q :: xs, .cons ⟨h1, h2⟩ r => by
    by_cases e : q.1 = k
    · refine .inr ⟨p.2, q.2, valV_pos (h1.trans e), ?_, h2⟩
      unfold getD
      rw [List.find?_cons, decide_eq_true e]
      rfl
    · have e' : ¬p.1 = k := fun z => e (h1 ▸ z)
      rw [valV_neg e', show getD (q :: xs) k = getD xs k by
        unfold getD
        rw [List.find?_cons, decide_eq_false e]]
      exact get_pair r
theorem pmap2 {α' β' : Type} {F : α → β → Prop} {F' : α' → β' → Prop} {f : α → α'} {g : β → β'} : ∀ {l : List α} {m : List β}, Paired F l m → (∀ a b, F a b → F' (f a) (g b)) → Paired F' (l.map f) (m.map g)
  | _, _, .nil, _ => .nil
  | _, _, .cons r t, h => .cons (h _ _ r) (pmap2 t h)
theorem put_pair {t : Ty α} {b : Bs} {G : Hp} {k : Key} {v : V} {x : α} {vs : List (Key × V)} {xs : List (Key × α)} (p : Paired (EntR t b G) vs xs) (r : t.rel b G v x) : Paired (EntR t b G) (putK vs k v) (putD xs k x) := by
  unfold putK putD
  rw [valV_any]
  rcases get_pair (k := k) p with ⟨h1, h2⟩ | ⟨v', x', h1, h2, _⟩
  · rw [h1, h2]
    exact papp p (.cons ⟨rfl, r⟩ .nil)
  · rw [h1, h2]
    refine pmap2 p fun a q ⟨e1, e2⟩ => ?_
    by_cases z : q.1 = k
    · rw [if_pos z, if_pos (e1.trans z)]
      exact ⟨e1, r⟩
    · rw [if_neg z, if_neg fun z' => z (e1 ▸ z')]
      exact ⟨e1, e2⟩
def owD (t : Ty α) : Ow (List (Key × α)) := ⟨fun b G o xs => ∃ kvs, o = .dK kvs ∧ Paired (EntR t b G) kvs xs,
  fun s ⟨kvs, e, p⟩ => ⟨kvs, e, pmap p fun _ _ ⟨h1, h2⟩ => ⟨h1, t.mono s h2⟩⟩, fun k n ⟨kvs, e, p⟩ => ⟨kvs, e, pmap p fun _ _ ⟨h1, h2⟩ => ⟨h1, t.up k n h2⟩⟩,
  fun ⟨kvs, e, _⟩ ps z => (nomatch (e.symm.trans z)), fun ⟨kvs, e, _⟩ c q z => (nomatch (e.symm.trans z))⟩
def tDct (t : Ty α) : Ty (List (Key × α)) := ⟨fun b G v xs => ∃ a kvs, v = .ref a ∧ G a = some (.dK kvs) ∧ Paired (EntR t b G) kvs xs,
  fun s ⟨a, kvs, e, h, p⟩ => ⟨a, kvs, e, s _ _ h, pmap p fun _ _ ⟨h1, h2⟩ => ⟨h1, t.mono s h2⟩⟩, fun k n ⟨a, kvs, e, h, p⟩ => ⟨a, kvs, e, h, pmap p fun _ _ ⟨h1, h2⟩ => ⟨h1, t.up k n h2⟩⟩⟩
instance (t : Ty α) [Pu t] : Pu (tDct t) := ⟨fun k ⟨a, kvs, e, h, p⟩ => ⟨a, kvs, e, h, pmap p fun _ _ ⟨h1, h2⟩ => ⟨h1, Pu.pu k h2⟩⟩⟩
theorem EnvOk.upd_ow {b : Bs} {G H : Hp} {σ : L2.St} {ρ : Env} {i : Nat} {W : Ow α} {x y : α} {a : Addr} {o' : HO} (I : EnvOk b G H σ ρ) (h : ρ[i]? = some (some (.ow W x))) (hv : σ[i]? = some (some (.ref a))) (r : W.rel b G o' y) :
    EnvOk b G (upd H a o') σ (ρ.set i (some (.ow W y))) := by
  obtain ⟨v, hv', a', o, e, h1, h2, h3, h4⟩ := I.sl i _ h
  rw [hv] at hv'
  cases hv'
  cases e
  have hi : i < ρ.length := (List.getElem?_eq_some_iff.mp h).1
  have old : ∀ (j : Nat) (s : SV), (ρ.set i (some (.ow W y)))[j]? = some (some s) → ∃ s', ρ[j]? = some (some s') ∧ s'.own = s.own := fun j s q => by
    by_cases hj : i = j
    · subst hj
      rw [List.getElem?_set_self hi] at q
      cases q
      exact ⟨_, h, rfl⟩
    · rw [List.getElem?_set_ne hj] at q
      exact ⟨s, q, rfl⟩
  refine ⟨Same.mut I.gh h1, I.bh.mut h2, I.g0, I.nw, fun j s q => ?_, fun j k s s' w hjk e1 e2 o1 o2 => ?_, by simp [I.ln], tabs_upd I.tb h3 (W.nt h4) (W.nc h4), I.nt⟩
  · by_cases hj : i = j
    · subst hj
      rw [List.getElem?_set_self hi] at q
      cases q
      exact ⟨_, hv, a, o', rfl, h1, h2, upd_same, r⟩
    · rw [List.getElem?_set_ne hj] at q
      obtain ⟨w, w1, w2⟩ := I.sl j s q
      refine ⟨w, w1, ?_⟩
      cases s with
      | sh u x => exact w2
      | ol u zs =>
        obtain ⟨c, ws, rfl, z1, z2, z3, z4⟩ := w2
        have hc : c ≠ a := fun z => I.ds i j _ _ _ hj h q rfl rfl hv (by rw [w1, z])
        exact ⟨c, ws, rfl, z1, z2, by rw [upd_ne hc]; exact z3, z4⟩
      | ow W' x =>
        obtain ⟨c, o, rfl, z1, z2, z3, z4⟩ := w2
        have hc : c ≠ a := fun z => I.ds i j _ _ _ hj h q rfl rfl hv (by rw [w1, z])
        exact ⟨c, o, rfl, z1, z2, by rw [upd_ne hc]; exact z3, z4⟩
      | ck u x => exact w2
  · obtain ⟨s1, q1, p1⟩ := old j s e1
    obtain ⟨s2, q2, p2⟩ := old k s' e2
    exact I.ds j k s1 s2 w hjk q1 q2 (p1.trans o1) (p2.trans o2)
/-- an object of one's own at a that no other slot has -/
theorem EnvOk.set_ow {b : Bs} {G H : Hp} {σ : L2.St} {ρ : Env} {W : Ow α} {x : α} {a : Addr} {o : HO} (I : EnvOk b G H σ ρ) (i : Nat) (h1 : G a = none) (h2 : ntb b.B a = none) (h3 : H a = some o) (h4 : W.rel b G o x)
    (hn : ∀ (j : Nat) (s : SV), i ≠ j → ρ[j]? = some (some s) → s.own = true → σ[j]? ≠ some (some (.ref a))) : EnvOk b G H (σ.set i (some (.ref a))) (ρ.set i (some (.ow W x))) := by
  refine ⟨I.gh, I.bh, I.g0, I.nw, fun j s e => ?_, fun j k s s' w hjk e1 e2 o1 o2 ew => ?_, by simp [I.ln], I.tb, I.nt⟩
  · by_cases hj : i = j
    · subst hj
      have hl : i < ρ.length := by
        have := (List.getElem?_eq_some_iff.mp e).1
        simpa using this
      rw [List.getElem?_set_self hl] at e
      cases e
      exact ⟨.ref a, List.getElem?_set_self (by rw [I.ln]; exact hl), a, o, rfl, h1, h2, h3, h4⟩
    · rw [List.getElem?_set_ne hj] at e
      obtain ⟨w, q1, q2⟩ := I.sl j s e
      exact ⟨w, by rw [List.getElem?_set_ne hj]; exact q1, q2⟩
  · by_cases hj : i = j
    · subst hj
      have hk : i ≠ k := hjk
      have hl : i < σ.length := by
        have := (List.getElem?_eq_some_iff.mp ew).1
        simpa using this
      rw [List.getElem?_set_self hl] at ew
      cases ew
      rw [List.getElem?_set_ne hk] at e2 ⊢
      exact hn k s' hk e2 o2
    · rw [List.getElem?_set_ne hj] at e1 ew
      by_cases hk : i = k
      · subst hk
        intro z
        have hl : i < σ.length := by
          have := (List.getElem?_eq_some_iff.mp z).1
          simpa using this
        rw [List.getElem?_set_self hl] at z
        cases z
        exact hn j s hj e1 o1 ew
      · rw [List.getElem?_set_ne hk] at e2 ⊢
        exact I.ds j k s s' w hjk e1 e2 o1 o2 ew
section
variable {X : Cx} {ρ ρ' : Env} {e e2 a b' ie : Expr} {es : List Expr} {rest : List Stmt} {pos p p2 p3 : Pos} {nm : Str} {ma : R α} {mb : R β} {mi mj : R Int} {ts : AT τ} {ms : R τ} {i k : Nat} {eN : ν → Env} {eB : γ → Env} {rk : Kd δ}
theorem op_inDct (hu : X.A.units + 1 < cLine) : OpR X (compareOp .In) (fun x y H Q => ∃ a o, y = .ref a ∧ DGet H a x o ∧ Q (.bl o.isSome) H) := by
  intro pins s σ H x y v u Q I rx ry h
  obtain ⟨a, o, e, g, q⟩ := h
  subst e
  obtain rfl : u = Value.ref a := ry
  exact d_in hu I g rx fun s3 I3 => ⟨.bl o.isSome, H, I3, rfl, q⟩
theorem op_ninDct (hu : X.A.units + 1 < cLine) : OpR X (compareOp .NotIn) (fun x y H Q => ∃ a o, y = .ref a ∧ DGet H a x o ∧ Q (.bl (!o.isSome)) H) := by
  intro pins s σ H x y v u Q I rx ry h
  obtain ⟨a, o, e, g, q⟩ := h
  subst e
  obtain rfl : u = Value.ref a := ry
  exact d_notIn hu I g rx fun s3 I3 => ⟨.bl (!o.isSome), H, I3, rfl, q⟩
theorem xp_varD (i : Nat) {t : Ty α} {xs : List (Key × α)} (h : ρ[i]? = some (some (.ow (owD t) xs))) (hN : X.N[i]? = some nm) (hv : Vis X.env.scope nm := by first | exact Or.inl rfl | exact Or.inr (Or.inl rfl) | exact Or.inr (Or.inr rfl)) (hd : (nm == ("__debug__" : Str)) = false := by decide) (hcd : (nm == ("__classdict__" : Str)) = false := by decide) :
    XO X ρ (.Name nm pos) (kP (tDct t)) (.ok xs) := fun b hb => pe_imp (pe_var hN hv hd hcd) fun σ H Q ⟨G, I, h1⟩ => by
  obtain ⟨v, hv, a, o, rfl, r1, r2, r3, kvs, e, r4⟩ := I.sl i _ h
  rw [e] at r3
  exact ⟨_, hv, h1.give I.gh ⟨a, kvs, rfl, nt_of r3 (fun _ z => nomatch z), pmap r4 fun _ _ ⟨h1, h2⟩ => ⟨h1, t.mono (I.nt.of I.gh) h2⟩⟩⟩
section
variable {t : Ty α} {u : Ty κ} {f : κ → Key} [q : KeyT u f] {m : R (List (Key × α))} {mk : R κ}
theorem dget_of {b : Bs} {G H : Hp} {v w : V} {xs : List (Key × α)} {x : κ} (h : (tDct t).rel b G v xs) (s : Same G H) {G' : Hp} (h2 : u.rel b G' w x) : ∃ a o, v = .ref a ∧ DGet H a w o ∧ o.isSome = (getD xs (f x)).isSome := by
  obtain ⟨a, kvs, e, g, p⟩ := h
  refine ⟨a, valV kvs (f x), e, ?_, ?_⟩
  · rw [q.key h2]
    exact DGet.k (s _ _ g)
  · rcases get_pair (k := f x) p with ⟨h1, h2⟩ | ⟨v', x', h1, h2, _⟩ <;> (rw [h1, h2]; rfl)
theorem o2_inD : Op2 X (fun x y H Q => ∃ a o, y = .ref a ∧ DGet H a x o ∧ Q (.bl o.isSome) H) (kE u) (kP (tDct t)) (kE tBool) fun x ys => .ok (getD ys (f x)).isSome := fun b H0 G H vx vy x y Q hb A r1 r2 w => by
  obtain ⟨a, o, e, g, z⟩ := dget_of (q := q) r2 (nt_same H) r1
  exact ⟨a, o, e, g, by
    rw [z]
    exact w.give A.gh rfl⟩
theorem o2_ninD : Op2 X (fun x y H Q => ∃ a o, y = .ref a ∧ DGet H a x o ∧ Q (.bl (!o.isSome)) H) (kE u) (kP (tDct t)) (kE tBool) fun x ys => .ok (!(getD ys (f x)).isSome) := fun b H0 G H vx vy x y Q hb A r1 r2 w => by
  obtain ⟨a, o, e, g, z⟩ := dget_of (q := q) r2 (nt_same H) r1
  exact ⟨a, o, e, g, by
    rw [z]
    exact w.give A.gh rfl⟩
theorem xe_inD (hr : Room k X.A) (ha : XO X ρ a (kE u) mk) (hb : XO X ρ b' (kP (tDct t)) m) (hm : behindInMarks .In b' = false := by rfl) : XO X ρ (.Compare a [.In] [b'] pos) (kE tBool) (mk.bind fun x => m.bind fun ys => .ok (getD ys (f x)).isSome) := xo_cmp (op_inDct (by have := hr.units; omega)) o2_inD hm ha hb
theorem xt_inD (hr : Room k X.A) (ha : XO X ρ a (kE u) mk) (hb : XO X ρ b' (kP (tDct t)) m) (hm : behindInMarks .In b' = false := by rfl) : XT X ρ (.Compare a [.In] [b'] pos) (mk.bind fun x => m.bind fun ys => .ok (getD ys (f x)).isSome) := xt_cmp (op_inDct (by have := hr.units; omega)) o2_inD hm ha hb
theorem xe_ninD (hr : Room k X.A) (ha : XO X ρ a (kE u) mk) (hb : XO X ρ b' (kP (tDct t)) m) (hm : behindInMarks .NotIn b' = false := by rfl) : XO X ρ (.Compare a [.NotIn] [b'] pos) (kE tBool) (mk.bind fun x => m.bind fun ys => .ok (!(getD ys (f x)).isSome)) := xo_cmp (op_ninDct (by have := hr.units; omega)) o2_ninD hm ha hb
theorem xt_ninD (hr : Room k X.A) (ha : XO X ρ a (kE u) mk) (hb : XO X ρ b' (kP (tDct t)) m) (hm : behindInMarks .NotIn b' = false := by rfl) : XT X ρ (.Compare a [.NotIn] [b'] pos) (mk.bind fun x => m.bind fun ys => .ok (!(getD ys (f x)).isSome)) := xt_cmp (op_ninDct (by have := hr.units; omega)) o2_ninD hm ha hb
/-- x = {} -/
theorem xs_setD0 {m : R (Fl ν γ δ)} (t : Ty α) (hN : X.N.Nodup) (hi : X.N[i]? = some nm) (hx : Loc X.env.scope nm) (h : XS X (ρ.set i (some (.ow (owD t) []))) rest eN eB rk m)
    (hs : swapsWith (.Dict [] [] p) (some (.Name nm p2)) pos.line X.env = pure false := by rfl) (hf : X.fn nm = true ∨ X.env.scope.names.lookup nm = some .local := by first | exact .inl rfl | exact .inr rfl | assumption) :
    XS X ρ (.Assign [.Name nm p2] (.Dict [] [] p) pos :: rest) eN eB rk m := fun b hk => pss_imp (pss_cons (ps_set hN hi hx pe_dnewK hs hf) (h b hk)) fun D σ H ⟨⟨G, I⟩, q⟩ => fun a ha =>
  ⟨⟨G, by
    have I1 := I.grow (Grow.new I.gh ha (o := HO.dK []))
    exact I1.set_ow i (I.gh.free ha) (I.bh.free ha) upd_same ⟨[], rfl, .nil⟩ fun j s hj e o => I.own_ne (ntn ha) j s e o⟩, q⟩
/-- d[k] = v -/
def putR (xs : List (Key × α)) (k : Key) (x : α) : R (List (Key × α)) := (guardR (decide (xs.length < sizeLine))).bind fun _ => .ok (putD xs k x)
theorem xs_dput {xs : List (Key × α)} {k' : List (Key × α) → R (Fl ν γ δ)} (i : Nat) (hl : ρ[i]? = some (some (.ow (owD t) xs))) (hr : Room k X.A) (hN : X.N[i]? = some nm) (hv : Vis X.env.scope nm) (hi : XO X ρ ie (kE u) mk) (he : XO X ρ e (kE t) ma) (h : ∀ ys, XS X (ρ.set i (some (.ow (owD t) ys))) rest eN eB rk (k' ys))
    (hd : (nm == ("__debug__" : Str)) = false := by decide) (hcd : (nm == ("__classdict__" : Str)) = false := by decide)
    (hs : swapsWith e (some (.Subscript (.Name nm p2) ie p3)) pos.line X.env = pure false := by rfl) :
    XS X ρ (.Assign [.Subscript (.Name nm p2) ie p3] e pos :: rest) eN eB rk (ma.bind fun x => mk.bind fun y => (putR xs (f y) x).bind k') := fun b hk =>
  pss_imp (pss_cons (ps_dput (by have := hr.units; omega) (pe_var hN hv hd hcd) (hi b hk) (he b hk) hs) (pss_ex fun x => h x b hk)) fun D σ H ⟨⟨G, I⟩, q'⟩ => by
    obtain ⟨v, hv', a, o, rfl, hG, hB, hH, kvs, eo, hp⟩ := I.sl i _ hl
    rw [eo] at hH
    refine ⟨G, I, seqO (outS b eN eB rk D) ⟨q', I.bh⟩ fun x v G1 H1 g1 r1 w1 => ⟨.ref a, hv', G1, I.grow g1, seqO (outS b eN eB rk D) w1 fun y w G2 H2 g2 r2 w2 => ?_⟩⟩
    have I2 := (I.grow g1).grow g2
    have w3 := w2.1
    unfold putR at w3
    by_cases hz : xs.length < sizeLine
    · rw [decide_eq_true hz] at w3
      refine ⟨a, _, rfl, ?_, putD xs (f y) x, ⟨G2, I2.upd_ow (o' := .dK (putK kvs (f y) v)) hl hv' ⟨_, rfl, put_pair (pmap hp fun _ _ ⟨h1, h2⟩ => ⟨h1, t.mono (g1.g.trans g2.g) h2⟩) (t.mono g2.g r1)⟩⟩, w3⟩
      rw [q.key r2]
      exact DPut.k (g2.h.k _ _ (g1.h.k _ _ hH fun _ z => nomatch z) fun _ z => nomatch z) (by
        rw [plen hp]
        exact hz)
    · rw [decide_eq_false hz] at w3
      exact w3.elim
end

/-! ### tests known ahead; states with a gap -/
theorem xs_ifT {ν' : Type} {c : Expr} {th el : List Stmt} {eJ : ν' → Env} {m1 : R (Fl ν' γ δ)} {k : ν' → R (Fl ν γ δ)} (hc : XT X ρ c (.ok true)) (h1 : XS X ρ th eJ eB rk m1) (h : ∀ s, XS X (eJ s) rest eN eB rk (k s)) :
    XS X ρ (.If c th el pos :: rest) eN eB rk (m1.bind (joinR k)) := fun b hk =>
  pss_imp (pss_cons (ps_if (hc b hk) (h1 b hk) (⟨fun _ _ _ _ _ _ h => h.elim⟩ : PSs X el fun _ _ _ => False)) (pss_ex fun s => h s b hk)) fun D σ H ⟨⟨G, I⟩, q⟩ => ⟨G, I, fun G1 H1 g1 => ⟨⟨G1, I.grow g1⟩, q.join fun s _ w3 σ' G' H' I' => ⟨s, ⟨G', I'⟩, w3⟩⟩⟩
theorem xs_ifF {ν' : Type} {c : Expr} {th el : List Stmt} {eJ : ν' → Env} {m1 : R (Fl ν' γ δ)} {k : ν' → R (Fl ν γ δ)} (hc : XT X ρ c (.ok false)) (h1 : XS X ρ el eJ eB rk m1) (h : ∀ s, XS X (eJ s) rest eN eB rk (k s)) :
    XS X ρ (.If c th el pos :: rest) eN eB rk (m1.bind (joinR k)) := fun b hk =>
  pss_imp (pss_cons (ps_if (hc b hk) (⟨fun _ _ _ _ _ _ h => h.elim⟩ : PSs X th fun _ _ _ => False) (h1 b hk)) (pss_ex fun s => h s b hk)) fun D σ H ⟨⟨G, I⟩, q⟩ => ⟨G, I, fun G1 H1 g1 => ⟨⟨G1, I.grow g1⟩, q.join fun s _ w3 σ' G' H' I' => ⟨s, ⟨G', I'⟩, w3⟩⟩⟩
theorem xs_bad {st : List Stmt} : XS X ρ st eN eB rk (.bad : R (Fl ν γ δ)) := fun b hk => ⟨fun _ _ _ _ _ _ h => h.2.elim⟩
def optS {σ : Type} (x : Option σ) (k : σ → R β) : R β := match x with
  | some y => k y
  | none => .bad
theorem xs_opt {σ : Type} {st : List Stmt} {x : Option σ} {eL : Option σ → Env} {k : σ → R (Fl ν γ δ)} (h : ∀ y, XS X (eL (some y)) st eN eB rk (k y)) : XS X (eL x) st eN eB rk (optS x k) := by
  cases x with
  | none => exact xs_bad
  | some y => exact h y
end
end Tr
end
section
set_option maxRecDepth 100000
set_option maxHeartbeats 2000000
/-! Tr11: blocks; lists that are spoiled. -/
namespace Tr
open PySem L2
variable [hasT : HasT] {α β γ δ τ ν κ : Type}
/-- the value that stood in slot i -/
def tAg (σ1 : L2.St) (i : Nat) (t : Ty α) : Ty α := ⟨fun b G v x => σ1[i]? = some (some v) ∧ t.rel b G v x, fun s h => ⟨h.1, t.mono s h.2⟩, fun k n h => ⟨h.1, t.up k n h.2⟩⟩
def tAny : Ty Unit := ⟨fun _ _ _ _ => True, fun _ h => h, fun _ _ h => h⟩
instance : Sc tAny := ⟨fun h => h⟩
instance : Pu tAny := ⟨fun _ h => h⟩
instance (σ1 : L2.St) (i : Nat) (t : Ty α) [q : Sc t] : Sc (tAg σ1 i t) := ⟨fun h => ⟨h.1, q.sc h.2⟩⟩
theorem sub_ag {σ1 : L2.St} {i : Nat} {t : Ty α} : Sub (tAg σ1 i t) t := ⟨fun h => h.2⟩
/-- the slots at a block's start -/
inductive AgL (σ1 : L2.St) : Nat → Env → Env → Prop where
  | nil {i : Nat} : AgL σ1 i [] []
  | pu {i : Nat} {α : Type} {t t' : Ty α} {x : α} {r r' : Env} (p : Pu t') (q : Sub t t') : AgL σ1 (i + 1) r r' → AgL σ1 i (some (.sh t x) :: r) (some (.sh (tAg σ1 i t') x) :: r')
  | puc {i : Nat} {α : Type} {t t' : Ty α} {x : α} {r r' : Env} (p : Pu t') (q : Sub t t') : AgL σ1 (i + 1) r r' → AgL σ1 i (some (.sh t x) :: r) (some (.ck (tAg σ1 i t') x) :: r')
  | hid {i : Nat} {s : SV} {r r' : Env} : AgL σ1 (i + 1) r r' → AgL σ1 i (some s :: r) (some (.sh (tAg σ1 i tAny) ()) :: r')
  | drop {i : Nat} {a : Option SV} {r r' : Env} : AgL σ1 (i + 1) r r' → AgL σ1 i (a :: r) (none :: r')
theorem AgL.at {σ1 : L2.St} {j : Nat} {r r' : Env} (h : AgL σ1 j r r') : r'.length = r.length ∧ ∀ (i : Nat) (s : SV), r'[i]? = some (some s) → ∃ s0, r[i]? = some (some s0) ∧ s.own = false ∧
    ∀ (b b' : Bs) (G H : Hp) (v : V), b.K = b'.K → Tight b' → σ1[j + i]? = some (some v) → SvOk b G H v s0 → SvOk b' G H v s := by
  induction h with
  | nil => exact ⟨rfl, fun i s e => by simp at e⟩
  | @pu j α t0 t x r r' p q _ ih =>
    refine ⟨by simp [ih.1], fun i s e => ?_⟩
    cases i with
    | zero =>
      cases (show some (some (SV.sh (tAg σ1 j t) x)) = some (some s) from e)
      exact ⟨_, rfl, rfl, fun b b' G H v k _ hv h => ⟨hv, p.pu k (q.s h)⟩⟩
    | succ i =>
      have := ih.2 i s (by simpa using e)
      rw [show j + 1 + i = j + (i + 1) by omega] at this
      simpa using this
  | @puc j α t0 t x r r' p q _ ih =>
    refine ⟨by simp [ih.1], fun i s e => ?_⟩
    cases i with
    | zero =>
      cases (show some (some (SV.ck (tAg σ1 j t) x)) = some (some s) from e)
      exact ⟨_, rfl, rfl, fun b b' G H v k tg hv h => ⟨⟨hv, p.pu k (q.s h)⟩, tg⟩⟩
    | succ i =>
      have := ih.2 i s (by simpa using e)
      rw [show j + 1 + i = j + (i + 1) by omega] at this
      simpa using this
  | @hid j s0 r r' _ ih =>
    refine ⟨by simp [ih.1], fun i s e => ?_⟩
    cases i with
    | zero =>
      cases (show some (some (SV.sh (tAg σ1 j tAny) ())) = some (some s) from e)
      exact ⟨_, rfl, rfl, fun b b' G H v k _ hv h => ⟨hv, trivial⟩⟩
    | succ i =>
      have := ih.2 i s (by simpa using e)
      rw [show j + 1 + i = j + (i + 1) by omega] at this
      simpa using this
  | @drop j a r r' _ ih =>
    refine ⟨by simp [ih.1], fun i s e => ?_⟩
    cases i with
    | zero => cases (show some none = some (some s) from e)
    | succ i =>
      have := ih.2 i s (by simpa using e)
      rw [show j + 1 + i = j + (i + 1) by omega] at this
      simpa using this
/-- a slot with a gap -/
def gapS (t : Ty α) (x : Option α) : Option SV := match x with
  | some y => some (.sh t y)
  | none => none
/-- the slots behind a block: kept, or as they stood ahead of it -/
inductive BkL (σ1 : L2.St) : Nat → Env → Env → Env → Prop where
  | nil {i : Nat} : BkL σ1 i [] [] []
  | keep {i : Nat} {α : Type} {t : Ty α} {x : α} {a : Option SV} {r r' ro : Env} : BkL σ1 (i + 1) r r' ro → BkL σ1 i (a :: r) (some (.sh t x) :: r') (some (.sh t x) :: ro)
  | unck {i : Nat} {α : Type} {t : Ty α} {x : α} {a : Option SV} {r r' ro : Env} : BkL σ1 (i + 1) r r' ro → BkL σ1 i (a :: r) (some (.ck t x) :: r') (some (.sh t x) :: ro)
  | back {i : Nat} {α : Type} {t : Ty α} {x : α} {s : SV} {r r' ro : Env} : BkL σ1 (i + 1) r r' ro → BkL σ1 i (some s :: r) (some (.sh (tAg σ1 i t) x) :: r') (some s :: ro)
  | backc {i : Nat} {α : Type} {t : Ty α} {x : α} {s : SV} {r r' ro : Env} : BkL σ1 (i + 1) r r' ro → BkL σ1 i (some s :: r) (some (.ck (tAg σ1 i t) x) :: r') (some s :: ro)
  | drop {i : Nat} {a b : Option SV} {r r' ro : Env} : BkL σ1 (i + 1) r r' ro → BkL σ1 i (a :: r) (b :: r') (none :: ro)
  | gap {i : Nat} {α : Type} {t : Ty α} {x : Option α} {a : Option SV} {r r' ro : Env} : BkL σ1 (i + 1) r r' ro → BkL σ1 i (a :: r) (gapS t x :: r') (gapS t x :: ro)
theorem BkL.at {σ1 : L2.St} {j : Nat} {r r' ro : Env} (h : BkL σ1 j r r' ro) : ro.length = r'.length ∧ ∀ (i : Nat) (s : SV), ro[i]? = some (some s) →
    (∃ (α : Type) (t : Ty α) (x : α), s = .sh t x ∧ (r'[i]? = some (some (.sh t x)) ∨ r'[i]? = some (some (.ck t x)))) ∨
    (r[i]? = some (some s) ∧ ∃ (α : Type) (t : Ty α) (x : α), r'[i]? = some (some (.sh (tAg σ1 (j + i) t) x)) ∨ r'[i]? = some (some (.ck (tAg σ1 (j + i) t) x))) := by
  induction h with
  | nil => exact ⟨rfl, fun i s e => by simp at e⟩
  | @keep j α t x a r r' ro _ ih =>
    refine ⟨by simp [ih.1], fun i s e => ?_⟩
    cases i with
    | zero =>
      cases (show some (some (SV.sh t x)) = some (some s) from e)
      exact .inl ⟨α, t, x, rfl, .inl rfl⟩
    | succ i =>
      have := ih.2 i s (by simpa using e)
      rw [show j + 1 + i = j + (i + 1) by omega] at this
      simpa using this
  | @unck j α t x a r r' ro _ ih =>
    refine ⟨by simp [ih.1], fun i s e => ?_⟩
    cases i with
    | zero =>
      cases (show some (some (SV.sh t x)) = some (some s) from e)
      exact .inl ⟨α, t, x, rfl, .inr rfl⟩
    | succ i =>
      have := ih.2 i s (by simpa using e)
      rw [show j + 1 + i = j + (i + 1) by omega] at this
      simpa using this
  | @back j α t x s0 r r' ro _ ih =>
    refine ⟨by simp [ih.1], fun i s e => ?_⟩
    cases i with
    | zero => exact .inr ⟨e, α, t, x, .inl rfl⟩
    | succ i =>
      have := ih.2 i s (by simpa using e)
      rw [show j + 1 + i = j + (i + 1) by omega] at this
      simpa using this
  | @backc j α t x s0 r r' ro _ ih =>
    refine ⟨by simp [ih.1], fun i s e => ?_⟩
    cases i with
    | zero => exact .inr ⟨e, α, t, x, .inr rfl⟩
    | succ i =>
      have := ih.2 i s (by simpa using e)
      rw [show j + 1 + i = j + (i + 1) by omega] at this
      simpa using this
  | @gap j α t x a r r' ro _ ih =>
    refine ⟨by simp [ih.1], fun i s e => ?_⟩
    cases i with
    | zero =>
      cases x with
      | none => cases (show some none = some (some s) from e)
      | some y =>
        cases (show some (some (SV.sh t y)) = some (some s) from e)
        exact .inl ⟨α, t, y, rfl, .inl rfl⟩
    | succ i =>
      have := ih.2 i s (by simpa using e)
      rw [show j + 1 + i = j + (i + 1) by omega] at this
      simpa using this
  | @drop j a b r r' ro _ ih =>
    refine ⟨by simp [ih.1], fun i s e => ?_⟩
    cases i with
    | zero => cases (show some none = some (some s) from e)
    | succ i =>
      have := ih.2 i s (by simpa using e)
      rw [show j + 1 + i = j + (i + 1) by omega] at this
      simpa using this
theorem EnvOk.back {b : Bs} {er : Str → Hp → Prop} {G H G' H' : Hp} {σ σ' : L2.St} {ρ ρ' ρo : Env} (I : EnvOk b G H σ ρ) (I' : EnvOk ⟨b.K, G, H, er⟩ G' H' σ' ρ') (h : BkL σ 0 ρ ρ' ρo) : EnvOk b G' H' σ' ρo := by
  obtain ⟨hl, h⟩ := h.at
  have g := I'.base
  have cases_ : ∀ (i : Nat) (s : SV), ρo[i]? = some (some s) → ∃ v, σ'[i]? = some (some v) ∧ SvOk b G' H' v s ∧ (s.own = true → ρ[i]? = some (some s) ∧ σ[i]? = some (some v)) := fun i s e => by
    rcases h i s e with ⟨α, t, x, rfl, q | q⟩ | ⟨q1, α, t, x, q | q⟩
    · obtain ⟨v, h1, h2⟩ := I'.sl i _ q
      exact ⟨v, h1, t.up (b := ⟨b.K, G, H, er⟩) (b' := b) rfl (fun a z => I.bh.freeN z) h2, fun o => nomatch o⟩
    · obtain ⟨v, h1, h2⟩ := I'.sl i _ q
      exact ⟨v, h1, t.up (b := ⟨b.K, G, H, er⟩) (b' := b) rfl (fun a z => I.bh.freeN z) h2.1, fun o => nomatch o⟩
    · obtain ⟨v, h1, h2, _⟩ := I'.sl i _ q
      obtain ⟨w, h3, h4⟩ := I.sl i s q1
      rw [Nat.zero_add] at h2
      rw [h2] at h3
      cases h3
      exact ⟨v, h1, h4.grow g, fun _ => ⟨q1, h2⟩⟩
    · obtain ⟨v, h1, ⟨h2, _⟩, _⟩ := I'.sl i _ q
      obtain ⟨w, h3, h4⟩ := I.sl i s q1
      rw [Nat.zero_add] at h2
      rw [h2] at h3
      cases h3
      exact ⟨v, h1, h4.grow g, fun _ => ⟨q1, h2⟩⟩
  refine ⟨I'.gh, I.bh.trans I'.bh, I.g0.trans I'.g0, fun a h1 h2 => I'.nw a (sne I.bh h1) (I.nw a h1 h2), fun i s e => ?_, fun i j s s' v hij e1 e2 o1 o2 z1 z2 => ?_, by rw [I'.ln, hl], I'.tb, I'.nt⟩
  · obtain ⟨v, h1, h2, _⟩ := cases_ i s e
    exact ⟨v, h1, h2⟩
  · obtain ⟨v1, a1, _, c1⟩ := cases_ i s e1
    obtain ⟨v2, a2, _, c2⟩ := cases_ j s' e2
    rw [a1] at z1
    rw [a2] at z2
    cases z1
    cases z2
    exact I.ds i j s s' _ hij (c1 o1).1 (c2 o2).1 o1 o2 (c1 o1).2 (c2 o2).2
theorem EnvOk.ag {b : Bs} {er : Str → Hp → Prop} {G H : Hp} {σ : L2.St} {ρ ρ' : Env} (I : EnvOk b G H σ ρ) (h : AgL σ 0 ρ ρ') : EnvOk ⟨b.K, G, H, er⟩ G H σ ρ' := by
  obtain ⟨hl, h⟩ := h.at
  refine ⟨I.gh, Sm.refl _, Same.refl _, fun a _ h => h, fun i s e => ?_, fun i j s s' v hij e1 _ o1 _ => ?_, by rw [I.ln, hl], I.tb, I.nt⟩
  · obtain ⟨s0, h1, _, h3⟩ := h i s e
    obtain ⟨v, h4, h5⟩ := I.sl i s0 h1
    exact ⟨v, h4, h3 b _ G H v rfl ⟨I.gh, I.nt⟩ (by rw [Nat.zero_add]; exact h4) h5⟩
  · obtain ⟨_, _, o, _⟩ := h i s e1
    rw [o] at o1
    cases o1
section
variable {X : Cx} {ρ : Env} {st : List Stmt} {eN : ν → Env} {eB : κ → Env} {rk : Kd δ} {m : R (Fl ν κ δ)}
/-- a block: statements that run as if in a def of their own -/
theorem xs_block {inE : L2.St → Env} {eN' : L2.St → ν → Env} {eB' : L2.St → κ → Env} (h0 : ∀ σ1, AgL σ1 0 ρ (inE σ1)) (h : ∀ σ1, XS X (inE σ1) st (eN' σ1) (eB' σ1) rk m) (h1 : ∀ σ1 s, BkL σ1 0 ρ (eN' σ1 s) (eN s)) (h2 : ∀ σ1 s, BkL σ1 0 ρ (eB' σ1 s) (eB s)) : XS X ρ st eN eB rk m := fun b hk =>
  pss_imp (pss_ex fun (i : L2.St × { b' : Bs // b'.K = b.K }) => h i.1 i.2.1 ⟨i.2.2.trans hk.K⟩) fun D σ H ⟨⟨G, I⟩, q⟩ => by
    refine ⟨(σ, ⟨⟨b.K, G, H, b.er⟩, rfl⟩), ⟨G, I.ag (h0 σ)⟩, ?_⟩
    cases m with
    | err c => exact fun H' s => q H' (I.bh.trans s)
    | bad => exact q
    | ok fl =>
      cases fl with
      | nx s => exact fun σ' G' H' I' => q σ' G' H' (I.back I' (h1 σ s))
      | bk s => exact fun σ' G' H' I' => q σ' G' H' (I.back I' (h2 σ s))
      | ct s => exact fun σ' G' H' I' => q σ' G' H' (I.back I' (h2 σ s))
      | rt y => exact fun v G' H' g r => q v G' H' (I.base.trans g) (rk.back I.bh (rk.up (b := ⟨b.K, G, H, b.er⟩) (b' := b) rfl (fun a z => I.bh.freeN z) r))
end
/-- what stays when a list is spoiled -/
inductive SpL : Env → Env → Prop where
  | nil : SpL [] []
  | sc {α : Type} {t : Ty α} {x : α} {r r' : Env} (p : Sc t) : SpL r r' → SpL (some (.sh t x) :: r) (some (.sh t x) :: r')
  | ag {σ1 : L2.St} {i : Nat} {α : Type} {t : Ty α} {x : α} {r r' : Env} : SpL r r' → SpL (some (.sh (tAg σ1 i t) x) :: r) (some (.sh (tAg σ1 i tAny) ()) :: r')
  | agc {σ1 : L2.St} {i : Nat} {α : Type} {t : Ty α} {x : α} {r r' : Env} : SpL r r' → SpL (some (.ck (tAg σ1 i t) x) :: r) (some (.ck (tAg σ1 i tAny) ()) :: r')
  | ol {α : Type} {t : Ty α} {xs : List α} {r r' : Env} : SpL r r' → SpL (some (.ol t xs) :: r) (some (.ol tAny (xs.map fun _ => ())) :: r')
  | drop {a : Option SV} {r r' : Env} : SpL r r' → SpL (a :: r) (none :: r')
theorem pany {b : Bs} {G : Hp} : ∀ (vs : List V) (n : List Unit), vs.length = n.length → Paired (tAny.rel b G) vs n
  | [], [], _ => .nil
  | _ :: vs, _ :: n, h => .cons trivial (pany vs n (by simpa using h))
  | [], _ :: _, h => by simp at h
  | _ :: _, [], h => by simp at h
theorem SpL.at {r r' : Env} (h : SpL r r') : r'.length = r.length ∧ ∀ (i : Nat) (s : SV), r'[i]? = some (some s) → ∃ s0, r[i]? = some (some s0) ∧ s.own = s0.own ∧
    ∀ (b : Bs) (G H G' H' : Hp) (v : V), (∀ a, G a = none → G' a = none) → (∀ a vs, G a = none → H a = some (.lst vs) → H' a = some (.lst vs)) → SvOk b G H v s0 → SvOk b G' H' v s := by
  have tail : ∀ {a b : Option SV} {r r' : Env}, (r'.length = r.length ∧ ∀ (i : Nat) (s : SV), r'[i]? = some (some s) → ∃ s0, r[i]? = some (some s0) ∧ s.own = s0.own ∧
    ∀ (b : Bs) (G H G' H' : Hp) (v : V), (∀ a, G a = none → G' a = none) → (∀ a vs, G a = none → H a = some (.lst vs) → H' a = some (.lst vs)) → SvOk b G H v s0 → SvOk b G' H' v s) →
    (∀ s, b = some s → ∃ s0, a = some s0 ∧ s.own = s0.own ∧ ∀ (b : Bs) (G H G' H' : Hp) (v : V), (∀ a, G a = none → G' a = none) → (∀ a vs, G a = none → H a = some (.lst vs) → H' a = some (.lst vs)) → SvOk b G H v s0 → SvOk b G' H' v s) →
    ((b :: r').length = (a :: r).length ∧ ∀ (i : Nat) (s : SV), (b :: r')[i]? = some (some s) → ∃ s0, (a :: r)[i]? = some (some s0) ∧ s.own = s0.own ∧
    ∀ (b : Bs) (G H G' H' : Hp) (v : V), (∀ a, G a = none → G' a = none) → (∀ a vs, G a = none → H a = some (.lst vs) → H' a = some (.lst vs)) → SvOk b G H v s0 → SvOk b G' H' v s) := fun {a b r r'} ih h => by
    refine ⟨by simp [ih.1], fun i s e => ?_⟩
    cases i with
    | zero =>
      obtain ⟨s0, h1, h2⟩ := h s (by simpa using e)
      exact ⟨s0, by rw [h1]; rfl, h2⟩
    | succ i => simpa using ih.2 i s (by simpa using e)
  induction h with
  | nil => exact ⟨rfl, fun i s e => by simp at e⟩
  | sc p _ ih =>
    refine tail ih fun s e => ?_
    cases e
    exact ⟨_, rfl, rfl, fun b G H G' H' v _ _ h => p.sc h⟩
  | ag _ ih =>
    refine tail ih fun s e => ?_
    cases e
    exact ⟨_, rfl, rfl, fun b G H G' H' v _ _ h => ⟨h.1, trivial⟩⟩
  | agc _ ih =>
    refine tail ih fun s e => ?_
    cases e
    exact ⟨_, rfl, rfl, fun b G H G' H' v _ _ h => ⟨⟨h.1.1, trivial⟩, h.2⟩⟩
  | ol _ ih =>
    refine tail ih fun s e => ?_
    cases e
    exact ⟨_, rfl, rfl, fun b G H G' H' v n k ⟨a, vs, e, h1, h2, h3, h4⟩ => ⟨a, vs, e, n a h1, h2, k a vs h1 h3, pany _ _ (by simp [plen h4])⟩⟩
  | drop _ ih => exact tail ih fun s e => nomatch e
theorem Tight.none {b : Bs} (t : Tight b) {p : Addr} (h : ntb b.B p = none) : b.G0 p = none := by
  cases q : b.G0 p with
  | none => rfl
  | some o =>
    rw [nt_of (t.s _ _ q) fun ps z => t.n p ps (z ▸ q)] at h
    cases h
theorem EnvOk.spoil {b : Bs} {G H : Hp} {σ : L2.St} {ρ ρ' : Env} {p : Addr} {xs ys : List V} (I : EnvOk b G H σ ρ) (tg : Tight b) (h : SpL ρ ρ') (hB : ntb b.B p = none) (hG : G p ≠ none) (hH : H p = some (.lst xs)) : EnvOk b b.G0 (upd H p (.lst ys)) σ ρ' := by
  obtain ⟨hl, h⟩ := h.at
  have hp := tg.none hB
  refine ⟨Same.mut (I.g0.trans I.gh) hp, I.bh.mut hB, Same.refl _, fun a _ h => h, fun i s e => ?_, fun i j s s' v hij e1 e2 o1 o2 => ?_, by rw [I.ln, hl], tabs_updL I.tb hH, tg.n⟩
  · obtain ⟨s0, h1, _, h3⟩ := h i s e
    obtain ⟨v, h4, h5⟩ := I.sl i s0 h1
    refine ⟨v, h4, h3 b G H _ _ v (fun a z => ?_) (fun a vs z1 z2 => ?_) h5⟩
    · cases q : b.G0 a with
      | none => rfl
      | some o =>
        rw [I.g0 _ _ q] at z
        cases z
    · have hne : a ≠ p := fun e => by
        rw [e] at z1
        exact hG z1
      rw [upd_ne hne]
      exact z2
  · obtain ⟨s1, a1, b1, _⟩ := h i s e1
    obtain ⟨s2, a2, b2, _⟩ := h j s' e2
    exact I.ds i j s1 s2 v hij a1 a2 (b1.symm.trans o1) (b2.symm.trans o2)
section
variable {X : Cx} {ρ ρ' : Env} {e e1 e2 : Expr} {rest : List Stmt} {pos p p2 p3 p4 : Pos} {eN : ν → Env} {eB : κ → Env} {rk : Kd δ}
/-- e1.append(e2): the list of e1, made in this block, is spoiled -/
theorem xs_spoil {t : Ty α} {u : Ty β} {t0 : Ty γ} {x0 : γ} {m1 : R (List α)} {m2 : R β} {m : R (Fl ν κ δ)} (c : Nat) (hc : ρ[c]? = some (some (.ck t0 x0))) (h1 : XO X ρ e1 (kE (tListN t)) m1) (h2 : XO X ρ e2 (kE u) m2) (sp : SpL ρ ρ') (h : XS X ρ' rest eN eB rk m)
    (hbase : attributeBase e1 "append" X.env (eval e1 X.env) = eval e1 X.env := by rfl)
    (hfew : ((backTo p4 (starEach [e2] X.env)).all (fun x => !x.1) && (backToKw p4 (keywordEach [] X.env)).all (fun x => x.1.isSome)
      && decide ([e2].length + ([] : List Keyword).length + (if ([] : List Keyword).isEmpty then 0 else 1) < 30)) = true := by rfl)
    (hline : (p3.endLine == p4.line) = true := by rfl) (hs : starEach [e2] X.env = (false, eval e2 X.env) :: starEach [] X.env := by rfl) (hplain : (backTo p4 (starEach [] X.env)).any (·.1) = false := by rfl)
    (hsw : swapsWith (.Call (.Attribute e1 "append" p3) [e2] [] p4) none pos.line X.env = pure false := by rfl) :
    XS X ρ (.Expr (.Call (.Attribute e1 "append" p3) [e2] [] p4) pos :: rest) eN eB rk (m1.bind fun xs => m2.bind fun _ => (guardR (decide (xs.length < sizeLine))).bind fun _ => m) := fun b hk =>
  pss_imp (pss_cons (ps_expr (pe_bm PySem.F.plainAttrs_list PySem.F.slot_list_append PySem.F.type_list_append mt_append (h1 b hk) (pa_cons (h2 b hk) pa_nil hs) hbase hfew hline hs hplain) hsw) (h b hk)) fun D σ H ⟨⟨G, I⟩, q⟩ => by
    obtain ⟨_, _, _, tg⟩ := I.sl c _ hc
    refine ⟨G, I, seqO (outS b eN eB rk D) ⟨q, I.bh⟩ fun xs v1 G1 H1 g1 ⟨p, vs, ev, hB, hG, hp⟩ w1 => ?_⟩
    have I1 := I.grow g1
    subst ev
    refine ⟨.inl ⟨rfl, vs, .inl (.inl (g1.gh _ _ hG))⟩, G1, I1, seqO (outS b eN eB rk D) w1 fun y v2 G2 H2 g2 r2 w2 => ?_⟩
    have I2 := I1.grow g2
    by_cases hz : xs.length < sizeLine
    · have w3 : EndS b eN eB rk m D := by
        have := w2.1
        rw [decide_eq_true hz] at this
        exact this
      have hH := g2.gh _ _ (g2.g _ _ hG)
      refine ⟨p, vs, v2, rfl, rfl, hH, by
        rw [plen hp]
        exact hz, ⟨_, I2.spoil tg sp hB (by
          rw [g2.g _ _ hG]
          exact fun z => nomatch z) hH⟩, w3⟩
    · have := w2.1
      rw [decide_eq_false hz] at this
      exact this.elim
/-- x[i].append(n1); x[j].append(n2): two lists of the tuple in slot a, made in this block, are spoiled -/
theorem xs_spoil2 {t : Ty α} {u : Ty β} {t0 : Ty γ} {x0 : γ} {ts : AT τ} {x : τ} {m : R (Fl ν κ δ)} {n1 n2 : Int} {i j : Nat} {f : τ → List α} {g : τ → List β} {nm : Str} {c1 c2 c3 c4 : Nat} {q1 q2 q3 q4 q5 q6 q7 q8 q9 q10 : Pos} (c a : Nat) (hc : ρ[c]? = some (some (.ck t0 x0))) (hx : ρ[a]? = some (some (.sh (tT ts) x))) (hN : X.N[a]? = some nm) (hv : Vis X.env.scope nm) (nf : Nth ts i (tListN t) f) (ng : Nth ts j (tListN u) g) (sp : SpL ρ ρ') (h : XS X ρ' rest eN eB rk m)
    (hd : (nm == ("__debug__" : Str)) = false := by decide) (hcd : (nm == ("__classdict__" : Str)) = false := by decide)
    (hb1 : attributeBase (.Subscript (.Name nm q1) (.Constant (.int (i : Int)) c1 q2) q3) "append" X.env (eval (.Subscript (.Name nm q1) (.Constant (.int (i : Int)) c1 q2) q3) X.env) = eval (.Subscript (.Name nm q1) (.Constant (.int (i : Int)) c1 q2) q3) X.env := by rfl)
    (hb2 : attributeBase (.Subscript (.Name nm q6) (.Constant (.int (j : Int)) c3 q7) q8) "append" X.env (eval (.Subscript (.Name nm q6) (.Constant (.int (j : Int)) c3 q7) q8) X.env) = eval (.Subscript (.Name nm q6) (.Constant (.int (j : Int)) c3 q7) q8) X.env := by rfl)
    (hf1 : ((backTo p (starEach [.Constant (.int n1) c2 q4] X.env)).all (fun x => !x.1) && (backToKw p (keywordEach [] X.env)).all (fun x => x.1.isSome)
      && decide ([Expr.Constant (.int n1) c2 q4].length + ([] : List Keyword).length + (if ([] : List Keyword).isEmpty then 0 else 1) < 30)) = true := by rfl)
    (hf2 : ((backTo p2 (starEach [.Constant (.int n2) c4 q9] X.env)).all (fun x => !x.1) && (backToKw p2 (keywordEach [] X.env)).all (fun x => x.1.isSome)
      && decide ([Expr.Constant (.int n2) c4 q9].length + ([] : List Keyword).length + (if ([] : List Keyword).isEmpty then 0 else 1) < 30)) = true := by rfl)
    (hl1 : (q5.endLine == p.line) = true := by rfl) (hl2 : (q10.endLine == p2.line) = true := by rfl) (hs1 : starEach [.Constant (.int n1) c2 q4] X.env = (false, eval (.Constant (.int n1) c2 q4) X.env) :: starEach [] X.env := by rfl) (hs2 : starEach [.Constant (.int n2) c4 q9] X.env = (false, eval (.Constant (.int n2) c4 q9) X.env) :: starEach [] X.env := by rfl)
    (hp1 : (backTo p (starEach [] X.env)).any (·.1) = false := by rfl) (hp2 : (backTo p2 (starEach [] X.env)).any (·.1) = false := by rfl)
    (hw1 : swapsWith (.Call (.Attribute (.Subscript (.Name nm q1) (.Constant (.int (i : Int)) c1 q2) q3) "append" q5) [.Constant (.int n1) c2 q4] [] p) none p3.line X.env = pure false := by rfl)
    (hw2 : swapsWith (.Call (.Attribute (.Subscript (.Name nm q6) (.Constant (.int (j : Int)) c3 q7) q8) "append" q10) [.Constant (.int n2) c4 q9] [] p2) none p4.line X.env = pure false := by rfl) :
    XS X ρ (.Expr (.Call (.Attribute (.Subscript (.Name nm q1) (.Constant (.int (i : Int)) c1 q2) q3) "append" q5) [.Constant (.int n1) c2 q4] [] p) p3 :: .Expr (.Call (.Attribute (.Subscript (.Name nm q6) (.Constant (.int (j : Int)) c3 q7) q8) "append" q10) [.Constant (.int n2) c4 q9] [] p2) p4 :: rest) eN eB rk
      ((guardR (decide ((f x).length + 1 < sizeLine) && decide ((g x).length + 1 < sizeLine))).bind fun _ => m) := fun b hk =>
  pss_imp (pss_cons (ps_expr (pe_bm PySem.F.plainAttrs_list PySem.F.slot_list_append PySem.F.type_list_append mt_append (pe_ix ix_tup (pe_var hN hv hd hcd) pe_int (fun _ _ => rfl)) (pa_cons pe_int pa_nil hs1) hb1 hf1 hl1 hs1 hp1) hw1)
    (pss_cons (ps_expr (pe_bm PySem.F.plainAttrs_list PySem.F.slot_list_append PySem.F.type_list_append mt_append (pe_ix ix_tup (pe_var hN hv hd hcd) pe_int (fun _ _ => rfl)) (pa_cons pe_int pa_nil hs2) hb2 hf2 hl2 hs2 hp2) hw2) (h b hk))) fun D σ H ⟨⟨G, I⟩, q⟩ => by
    obtain ⟨_, _, _, tg⟩ := I.sl c _ hc
    obtain ⟨v, hv', ad, vs, rfl, hS, hr⟩ := I.sl a _ hx
    obtain ⟨w1, g1, z1, us1, rfl, hB1, hG1, hP1⟩ := nf.nth hr
    obtain ⟨w2, g2, z2, us2, rfl, hB2, hG2, hP2⟩ := ng.nth hr
    by_cases hz : (decide ((f x).length + 1 < sizeLine) && decide ((g x).length + 1 < sizeLine)) = true
    · rw [hz] at q
      rw [Bool.and_eq_true, decide_eq_true_eq, decide_eq_true_eq] at hz
      have l1 := plen hP1
      have l2 := plen hP2
      have hH1 := I.gh _ _ hG1
      have hH2 := I.gh _ _ hG2
      have sS : SqT X.K H ad vs := by
        rw [← hk.K]
        exact seqT I.gh hS
      have J := I.spoil (ρ' := ρ') (ys := us1 ++ [V.int n1]) tg sp hB1 (by
        rw [hG1]
        exact fun z => nomatch z) hH1
      have sS2 : SqT X.K (upd H z1 (.lst (us1 ++ [V.int n1]))) ad vs := by
        rcases sS with (e | ⟨o, e⟩) | e
        · exact .inl (.inl (by
            rw [upd_ne (ne_of e hH1 fun z => nomatch z)]
            exact e))
        · exact .inl (.inr ⟨o, by
            rw [upd_ne (ne_of e hH1 fun z => nomatch z)]
            exact e⟩)
        · exact .inr e
      refine ⟨.ref ad, hv', ad, vs, i, .ref z1, rfl, rfl, sS, atI_nat g1, .inl ⟨rfl, us1, .inl (.inl hH1)⟩, z1, us1, .int n1, rfl, rfl, hH1, by omega, ?_⟩
      have key : ∃ ws, (upd H z1 (.lst (us1 ++ [V.int n1]))) z2 = some (.lst ws) ∧ ws.length < sizeLine := by
        by_cases e : z2 = z1
        · subst e
          exact ⟨_, upd_same, by
            rw [List.length_append]
            show us1.length + 1 < _
            omega⟩
        · exact ⟨us2, by
            rw [upd_ne e]
            exact hH2, by omega⟩
      obtain ⟨ws, hw, hl⟩ := key
      refine ⟨.ref ad, hv', ad, vs, j, .ref z2, rfl, rfl, sS2, atI_nat g2, .inl ⟨rfl, ws, .inl (.inl hw)⟩, z2, ws, .int n2, rfl, rfl, hw, hl, ?_, q⟩
      refine ⟨b.G0, J.updHid (tg.none hB2) hB2 (fun j' s e o z => ?_) (tabs_updL J.tb hw)⟩
      obtain ⟨s0, a1, a2, _⟩ := sp.at.2 j' s e
      obtain ⟨v', b1, b2⟩ := I.sl j' s0 a1
      rw [z] at b1
      cases b1
      rw [a2] at o
      cases s0 with
      | sh t x => cases o
      | ck t x => cases o
      | ol t xs =>
        obtain ⟨a', _, e', h1, _⟩ := b2
        cases e'
        rw [hG2] at h1
        cases h1
      | ow W x =>
        obtain ⟨a', _, e', h1, _⟩ := b2
        cases e'
        rw [hG2] at h1
        cases h1
    · rw [show (decide ((f x).length + 1 < sizeLine) && decide ((g x).length + 1 < sizeLine)) = false by simpa using hz] at q
      exact q.elim
end
/-- slots whose values alone are remembered -/
inductive WkA : Env → Env → Prop where
  | nil : WkA [] []
  | keep {s : Option SV} {r r' : Env} : WkA r r' → WkA (s :: r) (s :: r')
  | ag {σ1 : L2.St} {i : Nat} {α : Type} {t : Ty α} {x : α} {r r' : Env} : WkA r r' → WkA (some (.sh (tAg σ1 i t) x) :: r) (some (.sh (tAg σ1 i tAny) ()) :: r')
  | agc {σ1 : L2.St} {i : Nat} {α : Type} {t : Ty α} {x : α} {r r' : Env} : WkA r r' → WkA (some (.ck (tAg σ1 i t) x) :: r) (some (.sh (tAg σ1 i tAny) ()) :: r')
  | drop {a : Option SV} {r r' : Env} : WkA r r' → WkA (a :: r) (none :: r')
theorem WkA.at {r r' : Env} (h : WkA r r') : r'.length = r.length ∧ ∀ (i : Nat) (s : SV), r'[i]? = some (some s) → ∃ s0, r[i]? = some (some s0) ∧ s.own = s0.own ∧ ∀ (b : Bs) (G H : Hp) (v : V), SvOk b G H v s0 → SvOk b G H v s := by
  have tail : ∀ {a b : Option SV} {r r' : Env}, (r'.length = r.length ∧ ∀ (i : Nat) (s : SV), r'[i]? = some (some s) → ∃ s0, r[i]? = some (some s0) ∧ s.own = s0.own ∧ ∀ (b : Bs) (G H : Hp) (v : V), SvOk b G H v s0 → SvOk b G H v s) →
    (∀ s, b = some s → ∃ s0, a = some s0 ∧ s.own = s0.own ∧ ∀ (b : Bs) (G H : Hp) (v : V), SvOk b G H v s0 → SvOk b G H v s) →
    ((b :: r').length = (a :: r).length ∧ ∀ (i : Nat) (s : SV), (b :: r')[i]? = some (some s) → ∃ s0, (a :: r)[i]? = some (some s0) ∧ s.own = s0.own ∧ ∀ (b : Bs) (G H : Hp) (v : V), SvOk b G H v s0 → SvOk b G H v s) := fun {a b r r'} ih h => by
    refine ⟨by simp [ih.1], fun i s e => ?_⟩
    cases i with
    | zero =>
      obtain ⟨s0, h1, h2⟩ := h s (by simpa using e)
      exact ⟨s0, by rw [h1]; rfl, h2⟩
    | succ i => simpa using ih.2 i s (by simpa using e)
  induction h with
  | nil => exact ⟨rfl, fun i s e => by simp at e⟩
  | keep _ ih => exact tail ih fun s e => ⟨s, e, rfl, fun _ _ _ _ h => h⟩
  | ag _ ih =>
    refine tail ih fun s e => ?_
    cases e
    exact ⟨_, rfl, rfl, fun b G H v h => ⟨h.1, trivial⟩⟩
  | agc _ ih =>
    refine tail ih fun s e => ?_
    cases e
    exact ⟨_, rfl, rfl, fun b G H v h => ⟨h.1.1, trivial⟩⟩
  | drop _ ih => exact tail ih fun s e => nomatch e
section
variable {X : Cx} {ρ ρ' : Env} {rest : List Stmt} {eN : ν → Env} {eB : κ → Env} {rk : Kd δ} {m : R (Fl ν κ δ)}
theorem xs_wkA (w : WkA ρ ρ') (h : XS X ρ' rest eN eB rk m) : XS X ρ rest eN eB rk m := fun b hk => pss_imp (h b hk) fun D σ H ⟨⟨G, I⟩, q⟩ => by
  obtain ⟨hl, h⟩ := w.at
  refine ⟨⟨G, I.gh, I.bh, I.g0, I.nw, fun i s e => ?_, fun i j s s' v hij e1 e2 o1 o2 => ?_, by rw [I.ln, hl], I.tb, I.nt⟩, q⟩
  · obtain ⟨s0, h1, _, h3⟩ := h i s e
    obtain ⟨v, h4, h5⟩ := I.sl i s0 h1
    exact ⟨v, h4, h3 _ _ _ _ h5⟩
  · obtain ⟨s1, a1, b1, _⟩ := h i s e1
    obtain ⟨s2, a2, b2, _⟩ := h j s' e2
    exact I.ds i j s1 s2 v hij a1 a2 (b1.symm.trans o1) (b2.symm.trans o2)
/-- a state whose first part may be missing -/
def gapR {σ : Type} (s : Option α × σ) (k : α → σ → R β) : R β := match s with
  | (some y, r) => k y r
  | (none, _) => .bad
theorem xs_gap {σ : Type} {eL : Option α × σ → Env} {s : Option α × σ} {k : α → σ → R (Fl ν κ δ)} (h : ∀ y r, XS X (eL (some y, r)) rest eN eB rk (k y r)) : XS X (eL s) rest eN eB rk (gapR s k) := by
  rcases s with ⟨_ | y, r⟩
  · exact xs_bad
  · exact h y r
end
end Tr
end
section
set_option maxRecDepth 100000
set_option maxHeartbeats 2000000
/-! Tr12: truth of lists, small words for the printer. -/
namespace Tr
open PySem L2
variable [hasT : HasT] {α β γ δ τ ν κ : Type}
section
variable {X : Cx} {ρ : Env} {e a : Expr} {m : R (List α)} {t : Ty α}
/-- a list as a test -/
theorem xt_tru (h : XO X ρ a (kL t) m) (he : ∀ whole, isTrue a X.env whole = (do let v ← whole; standAt a.pos; holding [v] (truthy v)) := by intro _; rfl) : XT X ρ a (m.bind fun xs => .ok (!xs.isEmpty)) :=
  fun b hk => pt_imp (pt_truth (h b hk) he) fun σ H Q ⟨G, I, w⟩ => ⟨G, I, seqO (k := fun xs => .ok (!xs.isEmpty)) (outT b Q) (by exact w) fun xs v G1 H1 g1 ⟨p, vs, e, h, r⟩ w1 => by
    have l := plen r
    have e1 : vs.isEmpty = xs.isEmpty := by
      cases vs <;> cases xs <;> simp_all
    refine ⟨!xs.isEmpty, ?_, EndT.give (b := b) w1 g1.gh⟩
    rw [e, ← e1]
    exact .inl ⟨vs, .inl (.inl h), rfl⟩⟩
end
theorem hz_of {ts : AT τ} {n m : Nat} (h : ∀ (b : Bs) (G : Hp) vs x, ts.rel b G vs x → vs.length = n) (hn : n ≤ m) : ∀ b G vs x, ts.rel b G vs x → vs.length ≤ m := fun b G vs x r => by
  rw [h b G vs x r]
  exact hn
theorem cvt_tr {t : Ty α} {t' : Ty β} {t'' : Ty γ} {f : α → β} {g : β → γ} (h : CvT t t' f) (k : CvT t' t'' g) : CvT t t'' (fun x => g (f x)) := ⟨fun r => k.s (h.s r)⟩
theorem cvt_of {t t' : Ty α} (h : Sub t t') : CvT t t' (fun x => x) := ⟨fun r => h.s r⟩
theorem cvt_NL {t : Ty α} {t' : Ty β} {f : α → β} (h : CvT t t' f) : CvT (tListN t) (tList t') (List.map f) := ⟨fun ⟨a, vs, e, _, q, p⟩ => ⟨a, vs, e, q, pmapF p fun _ _ => h.s⟩⟩
/-! ck slots read -/
section
variable {X : Cx} {ρ : Env} {nm : Str} {pos : Pos} {t : Ty α}
theorem vC (i : Nat) {x : α} (h : ρ[i]? = some (some (.ck t x))) (hN : X.N[i]? = some nm) (hv : Vis X.env.scope nm := by first | exact Or.inl rfl | exact Or.inr (Or.inl rfl) | exact Or.inr (Or.inr rfl)) (hd : (nm == ("__debug__" : Str)) = false := by decide) (hcd : (nm == ("__classdict__" : Str)) = false := by decide) :
    XO X ρ (.Name nm pos) (kE t) (.ok x) := fun b hb => pe_imp (pe_var hN hv hd hcd) fun σ H Q ⟨G, I, h1⟩ => by
  obtain ⟨v, hv, r, _⟩ := I.sl i _ h
  exact ⟨v, hv, h1.give I.gh r⟩
end
/-! ### defs that make lambdas -/
structure FunL (K : PySem.W.Frag) (mg : Str → Option Value) (base : Heap) (x : Str) (st : Stmt) (f : Addr) (fd : FuncData) (c : Addr) : Prop where
  ex : ∃ (oc : Value) (od : Option Addr) (kV doc pm : Value) (an : Option Addr) (ct : Value) (osl : Array (Option Value)),
    fd = PySem.W.fnOf x x (defArgs st) (defBody st) (defScope st) .none kV doc pm an (.ref c) ct ∧ K.lookup f = some ⟨oc, od, .func fd, osl⟩ ∧ PySem.W.codeIn K (.ref c) x = true
  kp : PySem.W.keepIn K (.ref f) = true
  tab : ∃ P, LamX.TabB base mg c P ∧ (P, x ++ ".<locals>." ++ "<lambda>") ∈ hasT.T ∧ ∀ p ∈ hasT.T, p.1 = P → p.2 = x ++ ".<locals>." ++ "<lambda>"
section
variable {P : Program} {w : World} {K : PySem.W.Frag} {mg : Str → Option Value} {base : Heap}
theorem fn_okL {x : Str} {st : Stmt} {f c : Addr} {fd : FuncData} {N ps : List Str} {k n : Nat} {ts : AT τ} {o : Kd δ} {m : τ → R (Fl Empty Empty δ)} {fe : τ → Env} (F : FunL K mg base x st f fd c) (S : FnScope N ps (defScope st)) (hf : AE ts fe) (hn : N.length = ps.length + n) (hl : ∀ x, (fe x).length = ps.length)
    (body : ∀ (A : Around) (outer : List PySem.Env) (s : Shared) (H : Hp) (E : XK), Room k (A.deeper (PyProof.Rows.envOfC x (defScope st) s.heap.objs.size f (.ref c))) → LamAt (cxOf CX0 P w K mg base N x (defScope st) f (.ref c) A outer s H E).nox → ∀ y, XS (cxOf CX0 P w K mg base N x (defScope st) f (.ref c) A outer s H E).nox (fe y ++ List.replicate n none) (defBody st) eNo eNo o (m y)) :
    FnOk P w K mg base CX0 (k + 1) f fd ps (spO K mg ts o fun x => unF (m x)) := by
  obtain ⟨oc, od, kV, doc, pm, an, ct, osl, rfl, lk, hcd⟩ := F.ex
  refine fn_of lk hcd S (fun vs H Q E ⟨G, x, _, _, _, r, _⟩ => by rw [(hf.ae r).1, hl]) fun A outer s H vs Q E hr hsp => ?_
  have la : LamAt (cxOf CX0 P w K mg base N x (defScope st) f (.ref c) A outer s H E).nox := by
    obtain ⟨Pt, h1, h2, h3⟩ := F.tab
    exact ⟨c, Pt, h1, rfl, h2, h3⟩
  obtain ⟨G, y, gh, nG, tb, r, q⟩ := hsp
  obtain ⟨l, sl⟩ := hf.ae r
  have main := body A outer s H E hr la y ⟨K, G, H, erE mg E⟩ ⟨rfl⟩
  refine ⟨_, main.nox, ⟨G, gh, Sm.refl _, Same.refl _, fun a _ h => h, fun i s e => ?_, fun i j s s' v _ e1 _ o1 _ => ?_, ?_, tb, nG⟩, ?_⟩
  · have e' : (fe y)[i]? = some (some s) := by
      by_cases hi : i < (fe y).length
      · rw [List.getElem?_append_left hi] at e
        exact e
      · rw [List.getElem?_append_right (by omega), List.getElem?_replicate] at e
        split at e <;> cases e
    obtain ⟨_, v, hv, k⟩ := sl i s e'
    have hi : i < vs.length := (List.getElem?_eq_some_iff.mp hv).1
    exact ⟨v, by
      unfold L2.start
      rw [List.getElem?_append_left (by simpa using hi), List.getElem?_map, hv]
      rfl, k H⟩
  · have e' : (fe y)[i]? = some (some s) := by
      by_cases hi : i < (fe y).length
      · rw [List.getElem?_append_left hi] at e1
        exact e1
      · rw [List.getElem?_append_right (by omega), List.getElem?_replicate] at e1
        split at e1 <;> cases e1
    rw [(sl i s e').1] at o1
    cases o1
  · unfold L2.start
    rw [List.length_append, List.length_map, List.length_replicate, List.length_append, List.length_replicate, hl, l, hl, hn]
    omega
  · have q2 : EndO ⟨K, G, H, erE mg E⟩ o (unF (m y)) H G H Q := q
    revert q2
    unfold unF
    cases m y with
    | ok fl =>
      cases fl with
      | nx s => exact s.elim
      | bk s => exact s.elim
      | ct s => exact s.elim
      | rt y => exact id
    | err c => exact id
    | bad => exact id
end
end Tr
end
section
set_option maxRecDepth 100000
set_option maxHeartbeats 2000000
/-! Tr13: the end of a law. -/
namespace Tr
open PySem PySem.Spec PyProof.Rows L2 LamX
/-- the end of a law, what the top has made being known -/
theorem walk_T {l : PySem.W.OpenLaw} {n k : Nat} {q : Program} {loose : List Str} {XP : (Str → Option Value) → Heap → Prop} {YP : World → Heap → Prop} {d : DefRec} {K : Params → PySem.W.Frag} {x : Str} (hn : l.most = some n) (hn2 : n ≤ sizeLine) (hdf : d.params.defaults = []) (hr : Room k callerA) (hY : ∀ (w : World) (h : Heap), YP w h → (K w.params).In h)
    (F : ∀ (w : World) (mg mb : Str → Option Value) (mean : ExcName → Option Value) (fa : Addr) (h : Heap), Top q (PySem.W.looseW q loose) mean mg mb h → (K w.params).In h → h.Ns mainGlobals mg → mg d.name = some (.ref fa) → LawAtS l w (K w.params) (fun _ _ _ _ _ _ => False) k n x mg fa h) :
    PySem.W.WalkO q loose XP YP l.row.toRowW d [] (fun f vs => PySem.call f vs) :=
  Att.attach_callB hn hdf fun w s₀ s₁ mg mb fa o pm cd doc a vs ns G Y ho hd hcd hmg hobj hints hlen hbits hg => by
    have KX := hY w _ Y
    have ⟨fd, cs, sp, hT, nT, C, hb, hsp, hF⟩ := F w mg mb _ fa _ G.T KX G.T.g hmg
    have e1 := G.T.bmain
    exact law_callTs KX G.T.g G.T.b G.T.builtins G.T.nolimit hg hT nT C e1 hobj hints (Nat.le_trans hlen hn2) hr hF hb (fun H hH hS => hsp H a ns hlen hbits hH hS) fun H e s' z => z
section
variable [hasT : HasT]
/-- the promise of a law at its script -/
theorem law_at {K : PySem.W.Frag} {mg : Str → Option Value} {m : List Int × Unit → R Bool} {H : Hp} {a : Addr} {ns : List Int} (hm : m (ns, ()) = .ok true) (tb : LamX.Tabs hasT.T H) (hS : SqL K H a (ns.map V.int)) : spO K mg (aCons (tSeq tInt) aNil) (kE tBool) m [.ref a] H (fun v _ => v = .bl true) fun _ _ _ => False := by
  refine ⟨ntb H, (ns, ()), nt_same H, nt_NT H, tb, ⟨.ref a, [], rfl, ⟨a, ns.map V.int, rfl, ?_, of_ints ns⟩, rfl⟩, ?_⟩
  · rcases hS with (h | ⟨o, h⟩) | h
    · exact .inl (.inl (nt_of h fun _ z => nomatch z))
    · exact .inl (.inr ⟨o, nt_of h fun _ z => nomatch z⟩)
    · exact .inr h
  · rw [hm]
    exact fun v G' H' _ r => r
end
end Tr
end
section
set_option maxRecDepth 100000
set_option maxHeartbeats 2000000
/-! Tr14: reasoning about mirrors. -/
namespace Tr
open PySem L2
variable {α β γ δ κ : Type}
/-- not by rfl: so that simp leaves steps that are checked one by one -/
theorem okb (a : α) (k : α → R β) : R.bind (.ok a) k = k a := (R.ok_bind a k).trans (Eq.refl _)
theorem mapR_ok {g : α → R β} {h : α → β} : ∀ {xs : List α}, (∀ x ∈ xs, g x = .ok (h x)) → mapR g xs = .ok (xs.map h)
  | [], _ => rfl
  | x :: xs, H => by
    show (g x).bind (fun y => (mapR g xs).bind fun ys => .ok (y :: ys)) = _
    rw [H x List.mem_cons_self, R.ok_bind, mapR_ok fun y hy => H y (List.mem_cons_of_mem _ hy)]
    rfl
theorem compR_ok {c : α → R Bool} {p : α → Bool} {g : α → R β} {h : α → β} : ∀ {xs : List α}, (∀ x ∈ xs, c x = .ok (p x)) → (∀ x ∈ xs, p x = true → g x = .ok (h x)) → compR c g xs = .ok ((xs.filter p).map h)
  | [], _, _ => rfl
  | x :: xs, H, K => by
    show (c x).bind (fun t => if t = true then (g x).bind fun y => (compR c g xs).bind fun ys => .ok (y :: ys) else compR c g xs) = _
    have ih := compR_ok (c := c) (p := p) (g := g) (h := h) (xs := xs) (fun y hy => H y (List.mem_cons_of_mem _ hy)) fun y hy => K y (List.mem_cons_of_mem _ hy)
    rw [H x List.mem_cons_self, R.ok_bind, ih]
    cases hp : p x with
    | true =>
      rw [if_pos rfl, K x List.mem_cons_self hp, R.ok_bind, R.ok_bind, List.filter_cons, if_pos hp]
      rfl
    | false => rw [if_neg Bool.false_ne_true, List.filter_cons, if_neg (by rw [hp]; exact Bool.false_ne_true)]
theorem forR_fold {σ : Type} {step : σ → α → R (Fl σ σ δ)} {f : σ → α → σ} : ∀ {xs : List α} {s : σ}, (∀ s x, x ∈ xs → step s x = .ok (.nx (f s x))) → forR step xs s = .ok (.inl (xs.foldl f s))
  | [], _, _ => rfl
  | x :: xs, s, H => by
    show (step s x).bind (loopR (forR step xs)) = _
    rw [H s x List.mem_cons_self]
    exact forR_fold fun s y hy => H s y (List.mem_cons_of_mem _ hy)
theorem forR_check {c : α → Bool} {y : δ} {step : Unit → α → R (Fl Unit Unit δ)} : ∀ {xs : List α}, (∀ x ∈ xs, step () x = if c x = true then .ok (.rt y) else .ok (.nx ())) → forR step xs () = if xs.any c = true then .ok (.inr y) else .ok (.inl ())
  | [], _ => rfl
  | x :: xs, H => by
    show (step () x).bind (loopR (forR step xs)) = _
    rw [H x List.mem_cons_self, List.any_cons]
    cases hc : c x with
    | true => rfl
    | false =>
      rw [if_neg Bool.false_ne_true, Bool.false_or]
      exact forR_check fun y hy => H y (List.mem_cons_of_mem _ hy)
/-- a loop that does not return, by an invariant -/
theorem forR_inv {σ : Type} {step : σ → α → R (Fl σ σ δ)} (P : Nat → σ → Prop) : ∀ (xs ys : List α) (s : σ), P ys.length s → (∀ (i : Nat) (s : σ) (x : α), (ys ++ xs)[i]? = some x → ys.length ≤ i → P i s → ∃ s', step s x = .ok (.nx s') ∧ P (i + 1) s') → ∃ s', forR step xs s = .ok (.inl s') ∧ P (ys ++ xs).length s'
  | [], ys, s, h0, _ => ⟨s, rfl, by simpa using h0⟩
  | x :: xs, ys, s, h0, H => by
    obtain ⟨s1, e1, h1⟩ := H ys.length s x (by simp) (Nat.le_refl _) h0
    have := forR_inv P xs (ys ++ [x]) s1 (by simpa using h1) fun i s x hx hi hp => H i s x (by simpa using hx) (by simp at hi; omega) hp
    obtain ⟨s2, e2, h2⟩ := this
    refine ⟨s2, ?_, by simpa using h2⟩
    show (step s x).bind (loopR (forR step xs)) = _
    rw [e1]
    exact e2
theorem forR_inv0 {σ : Type} {step : σ → α → R (Fl σ σ δ)} (P : Nat → σ → Prop) {xs : List α} {s : σ} (h0 : P 0 s) (H : ∀ (i : Nat) (s : σ) (x : α), xs[i]? = some x → P i s → ∃ s', step s x = .ok (.nx s') ∧ P (i + 1) s') : ∃ s', forR step xs s = .ok (.inl s') ∧ P xs.length s' := by
  simpa using forR_inv P xs [] s h0 fun i s x hx _ hp => H i s x (by simpa using hx) hp
/-- .. by an invariant of the state alone -/
theorem forR_all {σ : Type} {step : σ → α → R (Fl σ σ δ)} (P : σ → Prop) {xs : List α} {s : σ} (h0 : P s) (H : ∀ (s : σ) (x : α), x ∈ xs → P s → ∃ s', step s x = .ok (.nx s') ∧ P s') : ∃ s', forR step xs s = .ok (.inl s') ∧ P s' :=
  forR_inv0 (fun _ => P) h0 fun i s x hx hp => H s x (List.mem_of_getElem? hx) hp
theorem forR_cons {σ : Type} {step : σ → α → R (Fl σ σ δ)} {x : α} {xs : List α} {s : σ} : forR step (x :: xs) s = (step s x).bind (loopR (forR step xs)) := rfl
theorem loopR_nx {σ : Type} {f : σ → R (σ ⊕ δ)} {s : σ} : loopR f (.nx s) = f s := rfl
theorem loopR_rt {σ : Type} {f : σ → R (σ ⊕ δ)} {y : δ} : loopR f (.rt y) = .ok (.inr y) := rfl
theorem contR_inl {σ ν κ : Type} {k : σ → R (Fl ν κ δ)} {s : σ} : contR k (.inl s) = k s := rfl
theorem contR_inr {σ ν κ : Type} {k : σ → R (Fl ν κ δ)} {y : δ} : contR k (.inr y) = .ok (.rt y) := rfl
theorem unF_rt {y : δ} : unF (.ok (.rt y)) = .ok y := rfl
theorem upFl_rt {ν κ : Type} {y : δ} : (upFl (.rt y) : R (Fl ν κ δ)) = .ok (.rt y) := rfl
theorem andR_ok {p q : Bool} : andR (.ok p) (.ok q) = .ok (p && q) := by cases p <;> rfl
theorem orR_ok {p q : Bool} : orR (.ok p) (.ok q) = .ok (p || q) := by cases p <;> rfl
theorem notR_ok {p : Bool} : notR (.ok p) = .ok (!p) := rfl
theorem orR_t {n : R Bool} : orR (.ok true) n = .ok true := rfl
theorem orR_f {n : R Bool} : orR (.ok false) n = n := rfl
theorem andR_t {n : R Bool} : andR (.ok true) n = n := rfl
theorem andR_f {n : R Bool} : andR (.ok false) n = .ok false := rfl
theorem optR_some {x : α} : optR (some x) = .ok x := rfl
theorem guardR_t : guardR true = .ok () := rfl
theorem atR_nat {xs : List α} {k : Nat} (h : k < xs.length) : atR xs (k : Int) = .ok xs[k] := by
  unfold atR
  rw [atI_nat (List.getElem?_eq_getElem h)]
  rfl
theorem atR_get {xs : List α} {i : Int} {x : α} (h0 : 0 ≤ i) (h : xs[i.toNat]? = some x) : atR xs i = .ok x := by
  unfold atR
  rw [show i = ((i.toNat : Nat) : Int) by omega, atI_nat (j := i.toNat) h]
  rfl
theorem atR_zero {xs : List α} {x : α} (h : xs[0]? = some x) : atR xs 0 = .ok x := atR_get (i := 0) (by decide) h
theorem setR_ok {xs : List α} {i : Int} {x : α} (h0 : 0 ≤ i) (h : i < xs.length) : setR xs i x = .ok (xs.set i.toNat x) := by
  unfold setR ixN
  rw [if_pos h0, if_pos h]
theorem modR_ok {i j : Int} (h : 0 < j) : modR i j = .ok (i % j) := by
  unfold modR
  rw [decide_eq_true (by omega : j ≠ 0), guardR_t, R.ok_bind, Int.fmod_eq_emod_of_nonneg _ (by omega)]
theorem fdivR_ok {i j : Int} (h : 0 < j) (h2 : j < 2 ^ 64) : fdivR i j = .ok (i / j) := by
  unfold fdivR fdivOk
  rw [decide_eq_true (by omega : j ≠ 0), decide_eq_true (by omega : j.natAbs < 2 ^ 64), Bool.true_and, guardR_t, R.ok_bind, Int.fdiv_eq_ediv_of_nonneg _ (by omega)]
theorem mulR_okL {i j : Int} (h : -(2 ^ 64) < i) (h2 : i < 2 ^ 64) : mulR i j = .ok (i * j) := by
  unfold mulR mulOk
  rw [decide_eq_true h, decide_eq_true h2]
  rfl
theorem mulR_okR {i j : Int} (h : -(2 ^ 64) < j) (h2 : j < 2 ^ 64) : mulR i j = .ok (i * j) := by
  unfold mulR mulOk
  rw [decide_eq_true h, decide_eq_true h2, Bool.true_and, Bool.or_true]
  rfl
theorem rng1R_ok {j : Int} (h : j < 2 ^ 62) (h0 : -(2 ^ 62) ≤ j) : rng1R j = .ok (rangeL 0 j.toNat) := by
  unfold rng1R
  rw [decide_eq_true h, decide_eq_true h0]
  rfl
theorem rng2R_ok {i j : Int} (h : j < 2 ^ 62) (h0 : -(2 ^ 62) ≤ j) (h1 : i < 2 ^ 62) (h2 : -(2 ^ 62) ≤ i) : rng2R i j = .ok (rangeL i (j - i).toNat) := by
  unfold rng2R
  rw [decide_eq_true h, decide_eq_true h0, decide_eq_true h1, decide_eq_true h2]
  rfl
theorem szR_ok {n : Nat} (h : n ≤ 16777216) : szR n = .ok () := by
  unfold szR szOk
  rw [decide_eq_true (by rw [sizeLine_eq]; exact h)]
  rfl
theorem szLR_ok {xs : List α} (h : xs.length ≤ 16777216) : szLR xs = .ok xs := by
  unfold szLR
  rw [szR_ok h]
  rfl
theorem appR_ok {xs : List α} {x : α} (h : xs.length < 16777216) : appR xs x = .ok (xs ++ [x]) := by
  unfold appR
  rw [decide_eq_true (by rw [sizeLine_eq]; exact h)]
  rfl
theorem catR_ok {xs ys : List α} (h : xs.length + ys.length ≤ 16777216) : catR xs ys = .ok (xs ++ ys) := by
  unfold catR
  rw [szR_ok h]
  rfl
theorem repR_ok {xs : List α} {k : Int} (h0 : 0 ≤ k) (h : k < 2 ^ 62) (hz : xs.length * k.toNat ≤ 16777216) : repR xs k = .ok (repL xs k) := by
  unfold repR szOk
  rw [decide_eq_true (by omega : -(2 ^ 63) ≤ k), decide_eq_true (by omega : k < 2 ^ 63), decide_eq_true (by rw [sizeLine_eq]; exact hz)]
  rfl
theorem repL_one {x : α} {k : Int} : repL [x] k = List.replicate k.toNat x := by
  unfold repL
  induction k.toNat with
  | zero => rfl
  | succ n ih => rw [List.replicate_succ, List.flatten_cons, ih]; rfl
theorem putR_ok {xs : List (Key × α)} {k : Key} {x : α} (h : xs.length < 16777216) : putR xs k x = .ok (putD xs k x) := by
  unfold putR
  rw [decide_eq_true (by rw [sizeLine_eq]; exact h)]
  rfl
theorem rangeL_mem {lo x : Int} {n : Nat} : x ∈ rangeL lo n ↔ lo ≤ x ∧ x < lo + n := by
  unfold rangeL
  rw [List.mem_map]
  constructor
  · rintro ⟨i, hi, rfl⟩
    have := List.mem_range.mp hi
    omega
  · rintro ⟨h1, h2⟩
    exact ⟨(x - lo).toNat, List.mem_range.mpr (by omega), by omega⟩
theorem getD_put {xs : List (Key × α)} {k j : Key} {x : α} : (getD (putD xs k x) j) = if j = k then some x else getD xs j := by
  have key : ∀ ys : List (Key × α), getD ys j = (ys.find? fun kv => decide (kv.1 = j)).map (·.2) := fun _ => rfl
  unfold putD
  by_cases h : (getD xs k).isSome = true
  · rw [if_pos h]
    clear key
    induction xs with
    | nil => cases h
    | cons p r ih =>
      have hc : ∀ (q : Key × α) (l : List (Key × α)) (m : Key), getD (q :: l) m = if q.1 = m then some q.2 else getD l m := fun q l m => by
        unfold getD
        rw [List.find?_cons]
        by_cases e : q.1 = m
        · rw [decide_eq_true e, if_pos e]
          rfl
        · rw [decide_eq_false e, if_neg e]
      rw [List.map_cons, hc, hc]
      rw [hc] at h
      by_cases e : p.1 = k
      · rw [if_pos e]
        show (if p.1 = j then some x else _) = _
        by_cases ej : j = k
        · rw [if_pos ej, if_pos (e.trans ej.symm)]
        · rw [if_neg ej, if_neg (fun z => ej (z.symm.trans e)), if_neg (fun z => ej (z.symm.trans e))]
          clear ih h
          induction r with
          | nil => rfl
          | cons p' r' ih' =>
            rw [List.map_cons, hc, hc, ih']
            by_cases e' : p'.1 = k
            · rw [if_pos e']
              show (if p'.1 = j then some x else _) = _
              rw [if_neg (fun z => ej (z.symm.trans e')), if_neg (fun z => ej (z.symm.trans e'))]
            · rw [if_neg e']
      · rw [if_neg e] at h ⊢
        rw [ih h]
        by_cases ej : j = k
        · rw [if_pos ej, if_pos ej, if_neg (fun z => e (z.trans ej))]
        · rw [if_neg ej, if_neg ej]
  · rw [if_neg h, key, key, List.find?_append]
    cases q : xs.find? fun kv => decide (kv.1 = j) with
    | some p =>
      by_cases ej : j = k
      · subst ej
        rw [key, q] at h
        exact absurd rfl h
      · rw [if_neg ej]
        rfl
    | none =>
      by_cases ej : j = k
      · rw [if_pos ej, ej]
        simp
      · rw [if_neg ej]
        simp [Ne.symm ej]
theorem putD_len {xs : List (Key × α)} {k : Key} {x : α} : (putD xs k x).length ≤ xs.length + 1 := by
  unfold putD
  split <;> simp
theorem rangeL_length (lo : Int) (n : Nat) : (rangeL lo n).length = n := by simp [rangeL]
theorem rangeL_at {lo : Int} {n i : Nat} (h : i < n) : (rangeL lo n)[i]? = some (lo + i) := by
  unfold rangeL
  rw [List.getElem?_map, List.getElem?_range h]
  rfl
theorem zipL_at {xs : List α} {ys : List β} {i : Nat} {z : α × β × Unit} (h : (zipL xs ys)[i]? = some z) : ∃ x y, xs[i]? = some x ∧ ys[i]? = some y ∧ z = (x, y, ()) := zipL_get (hasT := ⟨[]⟩) h
theorem enumL_at {xs : List α} {i : Nat} {y : Int × α × Unit} (h : (enumL xs)[i]? = some y) : ∃ x, xs[i]? = some x ∧ y = ((i : Int), x, ()) := enumL_get (hasT := ⟨[]⟩) h
theorem enumL_length (xs : List α) : (enumL xs).length = xs.length := by simp [enumL]
theorem getD_int {xs : List α} {i : Int} (d : α) (h0 : 0 ≤ i) (h : i < xs.length) : atR xs i = .ok (xs.getD i.toNat d) := by
  refine atR_get h0 ?_
  rw [List.getD_eq_getElem?_getD, List.getElem?_eq_getElem (by omega)]
  rfl
theorem getD_mem {xs : List α} {i : Int} (d : α) (h0 : 0 ≤ i) (h : i < xs.length) : xs.getD i.toNat d ∈ xs := by
  rw [List.getD_eq_getElem?_getD, List.getElem?_eq_getElem (by omega)]
  exact List.getElem_mem _
/-- min by a key -/
theorem bestR_ok {kf : α → R Int} {key : α → Int} : ∀ {xs : List α} {x : α}, (∀ y ∈ xs, kf y = .ok (key y)) → ∃ y, bestR (fun a b => decide (a < b)) kf x (key x) xs = .ok y ∧ (y = x ∨ y ∈ xs) ∧ key y ≤ key x ∧ ∀ z ∈ xs, key y ≤ key z
  | [], x, _ => ⟨x, rfl, .inl rfl, Int.le_refl _, fun z hz => absurd hz (by simp)⟩
  | y :: ys, x, H => by
    have hy := H y List.mem_cons_self
    by_cases c : key y < key x
    · obtain ⟨w, e, h1, h2, h3⟩ := bestR_ok (kf := kf) (key := key) (xs := ys) (x := y) fun z hz => H z (List.mem_cons_of_mem _ hz)
      refine ⟨w, ?_, ?_, by omega, fun z hz => ?_⟩
      · unfold bestR
        rw [hy]
        show (if decide (key y < key x) = true then _ else _) = _
        rw [if_pos (decide_eq_true c)]
        exact e
      · rcases h1 with h1 | h1
        · exact .inr (h1 ▸ List.mem_cons_self)
        · exact .inr (List.mem_cons_of_mem _ h1)
      · rcases List.mem_cons.mp hz with e1 | hz
        · rw [e1]; exact h2
        · exact h3 z hz
    · obtain ⟨w, e, h1, h2, h3⟩ := bestR_ok (kf := kf) (key := key) (xs := ys) (x := x) fun z hz => H z (List.mem_cons_of_mem _ hz)
      refine ⟨w, ?_, ?_, h2, fun z hz => ?_⟩
      · unfold bestR
        rw [hy]
        show (if decide (key y < key x) = true then _ else _) = _
        rw [if_neg (by simpa using c)]
        exact e
      · rcases h1 with h1 | h1
        · exact .inl h1
        · exact .inr (List.mem_cons_of_mem _ h1)
      · rcases List.mem_cons.mp hz with e1 | hz
        · rw [e1]; omega
        · exact h3 z hz
theorem minKR_ok {kf : α → R Int} {key : α → Int} {xs : List α} (hne : xs ≠ []) (H : ∀ y ∈ xs, kf y = .ok (key y)) : ∃ y ∈ xs, minKR (fun a b => decide (a < b)) kf xs = .ok y ∧ ∀ z ∈ xs, key y ≤ key z := by
  cases xs with
  | nil => exact absurd rfl hne
  | cons x xs =>
    obtain ⟨y, e, h1, h2, h3⟩ := bestR_ok (kf := kf) (key := key) (xs := xs) (x := x) fun z hz => H z (List.mem_cons_of_mem _ hz)
    refine ⟨y, ?_, ?_, fun z hz => ?_⟩
    · rcases h1 with h1 | h1
      · rw [h1]; exact List.mem_cons_self
      · exact List.mem_cons_of_mem _ h1
    · simp only [minKR, H x List.mem_cons_self]
      exact e
    · rcases List.mem_cons.mp hz with e1 | hz
      · rw [e1]; exact h2
      · exact h3 z hz
theorem whileR_inv {σ : Type} {c : σ → R Bool} {step : σ → R (Fl σ σ δ)} {cb : σ → Bool} {P : σ → Prop} {μ : σ → Nat} (hc : ∀ s, P s → c s = .ok (cb s)) (hs : ∀ s, P s → cb s = true → ∃ s', step s = .ok (.nx s') ∧ P s' ∧ μ s' < μ s) : ∀ (n : Nat) (s0 : σ), P s0 → μ s0 < n → ∃ s, whileR c step n s0 = .ok (.inl s) ∧ P s ∧ cb s = false
  | 0, _, _, h => absurd h (Nat.not_lt_zero _)
  | n + 1, s0, hp, hn => by
    show ∃ s, (c s0).bind (fun t => if t = true then (step s0).bind (loopR (whileR c step n)) else .ok (.inl s0)) = _ ∧ _
    rw [hc s0 hp, okb]
    cases q : cb s0 with
    | false => exact ⟨s0, rfl, hp, q⟩
    | true =>
      obtain ⟨s1, e, p1, m1⟩ := hs s0 hp q
      rw [if_pos rfl, e, okb, loopR_nx]
      exact whileR_inv hc hs n s1 p1 (by omega)
theorem while_goal {σ : Type} {c : σ → R Bool} {step : σ → R (Fl σ σ δ)} {k : σ ⊕ δ → R β} {n : Nat} {s0 : σ} (cb : σ → Bool) (P : σ → Prop) (μ : σ → Nat) (Q : R β → Prop) (hc : ∀ s, P s → c s = .ok (cb s)) (h0 : P s0) (hn : μ s0 < n) (hs : ∀ s, P s → cb s = true → ∃ s', step s = .ok (.nx s') ∧ P s' ∧ μ s' < μ s) (hq : ∀ s, P s → cb s = false → Q (k (.inl s))) : Q ((whileR c step n s0).bind k) := by
  obtain ⟨s, e, p, b⟩ := whileR_inv hc hs n s0 h0 hn
  rw [e, okb]
  exact hq s p b
theorem filter_lt {p q : α → Bool} {k : α} : ∀ {l : List α}, (∀ x ∈ l, q x = true → p x = true) → k ∈ l → p k = true → q k = false → (l.filter q).length + 1 ≤ (l.filter p).length
  | [], _, h, _, _ => absurd h (by simp)
  | x :: l, H, hk, h1, h2 => by
    have le : (l.filter q).length ≤ (l.filter p).length := by
      clear hk
      induction l with
      | nil => exact Nat.le_refl _
      | cons y l ih =>
        have ih := ih fun z hz => H z (by
          rcases List.mem_cons.mp hz with e | hz
          · exact e ▸ List.mem_cons_self
          · exact List.mem_cons_of_mem _ (List.mem_cons_of_mem _ hz))
        rw [List.filter_cons, List.filter_cons]
        cases hq : q y with
        | true =>
          rw [if_pos rfl, if_pos (H y (by simp) hq)]
          simp only [List.length_cons]
          omega
        | false =>
          rw [if_neg Bool.false_ne_true]
          split
          · simp only [List.length_cons]
            omega
          · exact ih
    rw [List.filter_cons, List.filter_cons]
    by_cases e : x = k
    · subst e
      rw [if_neg (by rw [h2]; exact Bool.false_ne_true), if_pos h1]
      simp only [List.length_cons]
      omega
    · have ih := filter_lt (p := p) (q := q) (k := k) (l := l) (fun z hz => H z (List.mem_cons_of_mem _ hz)) ((List.mem_cons.mp hk).resolve_left fun z => e z.symm) h1 h2
      cases hq : q x with
      | true =>
        rw [if_pos rfl, if_pos (H x List.mem_cons_self hq)]
        simp only [List.length_cons]
        omega
      | false =>
        rw [if_neg Bool.false_ne_true]
        split
        · simp only [List.length_cons]
          omega
        · exact ih
end Tr
end
section
set_option maxRecDepth 100000
set_option maxHeartbeats 2000000
/-! Tr15: mirrors of tests, by what they say. -/
namespace Tr
open PySem L2
variable {α β γ δ ν κ : Type}
def Says (m : R Bool) (P : Prop) : Prop := ∃ b, m = .ok b ∧ (b = true ↔ P)
theorem says_dec {P : Prop} [Decidable P] : Says (.ok (decide P)) P := ⟨_, rfl, decide_eq_true_iff⟩
theorem says_ndec {P : Prop} [Decidable P] : Says (.ok (!decide P)) (¬P) := ⟨_, rfl, by simp⟩
theorem says_b {b : Bool} : Says (.ok b) (b = true) := ⟨b, rfl, Iff.rfl⟩
theorem says_true : Says (.ok true) True := ⟨true, rfl, by simp⟩
theorem says_false : Says (.ok false) False := ⟨false, rfl, by simp⟩
theorem Says.iff {m : R Bool} {P Q : Prop} (h : Says m P) (e : P ↔ Q) : Says m Q := h.imp fun _ ⟨h1, h2⟩ => ⟨h1, h2.trans e⟩
theorem says_bind {m : R α} {x : α} {k : α → R Bool} {P : Prop} (e : m = .ok x) (h : Says (k x) P) : Says (m.bind k) P := by
  rw [e]
  exact h
theorem says_or {m n : R Bool} {P Q : Prop} (h : Says m P) (k : ¬P → Says n Q) : Says (orR m n) (P ∨ Q) := by
  obtain ⟨b, rfl, h1⟩ := h
  cases b with
  | true => exact ⟨true, rfl, by simp [h1.mp rfl]⟩
  | false =>
    have np : ¬P := fun p => nomatch h1.mpr p
    exact (k np).iff ⟨.inr, fun h => h.resolve_left np⟩
theorem says_and {m n : R Bool} {P Q : Prop} (h : Says m P) (k : P → Says n Q) : Says (andR m n) (P ∧ Q) := by
  obtain ⟨b, rfl, h1⟩ := h
  cases b with
  | true => exact (k (h1.mp rfl)).iff ⟨fun q => ⟨h1.mp rfl, q⟩, fun h => h.2⟩
  | false => exact ⟨false, rfl, by simp; exact fun p => nomatch h1.mpr p⟩
theorem says_not {m : R Bool} {P : Prop} (h : Says m P) : Says (notR m) (¬P) := by
  obtain ⟨b, rfl, h1⟩ := h
  exact ⟨!b, rfl, by cases b <;> simp_all⟩
theorem says_ok {m : R Bool} {P : Prop} (h : Says m P) (p : P) : m = .ok true := by
  obtain ⟨b, rfl, h1⟩ := h
  rw [h1.mpr p]
theorem says_no {m : R Bool} {P : Prop} (h : Says m P) (p : ¬P) : m = .ok false := by
  obtain ⟨b, rfl, h1⟩ := h
  cases b with
  | true => exact (p (h1.mp rfl)).elim
  | false => rfl
theorem says_same {m n : R Bool} {P : Prop} (h : Says m P) (k : Says n P) : m = n := by
  obtain ⟨b, rfl, h1⟩ := h
  obtain ⟨c, rfl, h2⟩ := k
  cases b <;> cases c <;> simp_all
theorem says_all {g : α → R Bool} {P : α → Prop} : ∀ {xs : List α}, (∀ x ∈ xs, Says (g x) (P x)) → Says ((mapR g xs).bind fun ys => .ok (ys.all id)) (∀ x ∈ xs, P x)
  | [], _ => ⟨true, rfl, by simp⟩
  | x :: xs, H => by
    obtain ⟨b, e, h1⟩ := H x List.mem_cons_self
    obtain ⟨c, e2, h2⟩ := says_all (xs := xs) fun y hy => H y (List.mem_cons_of_mem _ hy)
    cases q : mapR g xs with
    | ok ys =>
      rw [q] at e2
      cases e2
      refine ⟨b && ys.all id, ?_, ?_⟩
      · show ((g x).bind fun y => (mapR g xs).bind fun ys => .ok (y :: ys)).bind _ = _
        rw [e, R.ok_bind, q]
        rfl
      · rw [Bool.and_eq_true, h1, h2]
        simp
    | err c =>
      rw [q] at e2
      cases e2
    | bad =>
      rw [q] at e2
      cases e2
theorem says_any {g : α → R Bool} {P : α → Prop} : ∀ {xs : List α}, (∀ x ∈ xs, Says (g x) (P x)) → Says ((mapR g xs).bind fun ys => .ok (ys.any id)) (∃ x ∈ xs, P x)
  | [], _ => ⟨false, rfl, by simp⟩
  | x :: xs, H => by
    obtain ⟨b, e, h1⟩ := H x List.mem_cons_self
    obtain ⟨c, e2, h2⟩ := says_any (xs := xs) fun y hy => H y (List.mem_cons_of_mem _ hy)
    cases q : mapR g xs with
    | ok ys =>
      rw [q] at e2
      cases e2
      refine ⟨b || ys.any id, ?_, ?_⟩
      · show ((g x).bind fun y => (mapR g xs).bind fun ys => .ok (y :: ys)).bind _ = _
        rw [e, R.ok_bind, q]
        rfl
      · rw [Bool.or_eq_true, h1, h2]
        simp
    | err c =>
      rw [q] at e2
      cases e2
    | bad =>
      rw [q] at e2
      cases e2
/-- if c: return False; then .. -/
theorem says_ifR {m : R Bool} {k : R (Fl Empty Empty Bool)} {P Q : Prop} (h : Says m P) (h2 : ¬P → Says (unF k) Q) : Says (unF (m.bind fun t => if t = true then upFl (Fl.rt false) else k)) (¬P ∧ Q) := by
  obtain ⟨b, rfl, h1⟩ := h
  cases b with
  | true => exact ⟨false, rfl, by simp [h1.mp rfl]⟩
  | false =>
    have np : ¬P := fun p => nomatch h1.mpr p
    exact (h2 np).iff ⟨fun q => ⟨np, q⟩, fun h => h.2⟩
/-- if c: return True; then .. -/
theorem says_ifT {m : R Bool} {k : R (Fl Empty Empty Bool)} {P Q : Prop} (h : Says m P) (h2 : ¬P → Says (unF k) Q) : Says (unF (m.bind fun t => if t = true then upFl (Fl.rt true) else k)) (P ∨ Q) := by
  obtain ⟨b, rfl, h1⟩ := h
  cases b with
  | true => exact ⟨true, rfl, by simp [h1.mp rfl]⟩
  | false =>
    have np : ¬P := fun p => nomatch h1.mpr p
    exact (h2 np).iff ⟨.inr, fun h => h.resolve_left np⟩
theorem says_ret {m : R Bool} {P : Prop} (h : Says m P) : Says (unF (m.bind fun y => R.ok (Fl.rt y))) P := by
  obtain ⟨b, rfl, h1⟩ := h
  exact ⟨b, rfl, h1⟩
theorem unF_bind {m : R α} {x : α} {k : α → R (Fl Empty Empty δ)} (e : m = .ok x) : unF (m.bind k) = unF (k x) := by rw [e]; rfl
/-- a loop that returns False at the first bad item -/
theorem says_for {step : Unit → α → R (Fl Unit Unit Bool)} {P : α → Prop} {Q : Prop} {k : Unit → R (Fl Empty Empty Bool)} {xs : List α} (H : ∀ x ∈ xs, ∃ b, step () x = (if b = true then .ok (.rt false) else .ok (.nx ())) ∧ (b = true ↔ ¬P x)) (h2 : (∀ x ∈ xs, P x) → Says (unF (k ())) Q) :
    Says (unF ((forR step xs ()).bind (contR k))) ((∀ x ∈ xs, P x) ∧ Q) := by
  have key : ∀ xs : List α, (∀ x ∈ xs, ∃ b, step () x = (if b = true then .ok (.rt false) else .ok (.nx ())) ∧ (b = true ↔ ¬P x)) → (forR step xs () = .ok (.inr false) ∧ ¬∀ x ∈ xs, P x) ∨ (forR step xs () = .ok (.inl ()) ∧ ∀ x ∈ xs, P x) := fun xs => by
    induction xs with
    | nil => exact fun _ => .inr ⟨rfl, fun x hx => absurd hx (by simp)⟩
    | cons x xs ih =>
      intro H
      obtain ⟨b, e, hb⟩ := H x List.mem_cons_self
      rw [forR_cons, e]
      cases b with
      | true => exact .inl ⟨rfl, fun h => hb.mp rfl (h x List.mem_cons_self)⟩
      | false =>
        have px : P x := Classical.byContradiction fun z => nomatch hb.mpr z
        rcases ih fun y hy => H y (List.mem_cons_of_mem _ hy) with ⟨h1, h2⟩ | ⟨h1, h2⟩
        · exact .inl ⟨h1, fun h => h2 fun y hy => h y (List.mem_cons_of_mem _ hy)⟩
        · refine .inr ⟨h1, fun y hy => ?_⟩
          rcases List.mem_cons.mp hy with e | hy
          · rw [e]; exact px
          · exact h2 y hy
  rcases key xs H with ⟨h1, h3⟩ | ⟨h1, h3⟩
  · rw [h1]
    exact ⟨false, rfl, by simp; exact fun h => absurd h h3⟩
  · rw [h1]
    exact (h2 h3).iff ⟨fun q => ⟨h3, q⟩, fun h => h.2⟩
theorem for_key {step : Unit → α → R (Fl Unit Unit Bool)} {P : α → Prop} : ∀ {xs : List α}, (∀ x ∈ xs, ∃ b, step () x = (if b = true then .ok (.rt false) else .ok (.nx ())) ∧ (b = true ↔ ¬P x)) → (forR step xs () = .ok (.inr false) ∧ ¬∀ x ∈ xs, P x) ∨ (forR step xs () = .ok (.inl ()) ∧ ∀ x ∈ xs, P x)
  | [], _ => .inr ⟨rfl, fun x hx => absurd hx (by simp)⟩
  | x :: xs, H => by
    obtain ⟨b, e, hb⟩ := H x List.mem_cons_self
    rw [forR_cons, e]
    cases b with
    | true => exact .inl ⟨rfl, fun h => hb.mp rfl (h x List.mem_cons_self)⟩
    | false =>
      have px : P x := Classical.byContradiction fun z => nomatch hb.mpr z
      rcases for_key (xs := xs) fun y hy => H y (List.mem_cons_of_mem _ hy) with ⟨h1, h2⟩ | ⟨h1, h2⟩
      · exact .inl ⟨h1, fun h => h2 fun y hy => h y (List.mem_cons_of_mem _ hy)⟩
      · refine .inr ⟨h1, fun y hy => ?_⟩
        rcases List.mem_cons.mp hy with e | hy
        · rw [e]; exact px
        · exact h2 y hy
/-- such a loop within the body of one -/
theorem step_for {step : Unit → α → R (Fl Unit Unit Bool)} {P : α → Prop} {xs : List α} (H : ∀ x ∈ xs, ∃ b, step () x = (if b = true then .ok (.rt false) else .ok (.nx ())) ∧ (b = true ↔ ¬P x)) :
    ∃ b, ((forR step xs ()).bind (contR fun _ => (R.ok (Fl.nx ()) : R (Fl Unit Unit Bool)))) = (if b = true then .ok (.rt false) else .ok (.nx ())) ∧ (b = true ↔ ¬∀ x ∈ xs, P x) := by
  rcases for_key H with ⟨h1, h2⟩ | ⟨h1, h2⟩
  · exact ⟨true, by rw [h1]; rfl, by simpa using h2⟩
  · exact ⟨false, by rw [h1]; rfl, by simpa using h2⟩
theorem step_if {m : R Bool} {P Q : Prop} {k : R (Fl Unit Unit Bool)} (h : Says m P) (h2 : ¬P → ∃ b, k = (if b = true then .ok (.rt false) else .ok (.nx ())) ∧ (b = true ↔ ¬Q)) :
    ∃ b, (m.bind fun t => if t = true then upFl (Fl.rt false) else k) = (if b = true then .ok (.rt false) else .ok (.nx ())) ∧ (b = true ↔ ¬(¬P ∧ Q)) := by
  obtain ⟨b, rfl, h1⟩ := h
  cases b with
  | true => exact ⟨true, rfl, by simp [h1.mp rfl]⟩
  | false =>
    have np : ¬P := fun p => nomatch h1.mpr p
    obtain ⟨c, e, h3⟩ := h2 np
    exact ⟨c, e, h3.trans ⟨fun z y => z y.2, fun z q => z ⟨np, q⟩⟩⟩
theorem step_iff {m : R (Fl Unit Unit Bool)} {P Q : Prop} (h : ∃ b, m = (if b = true then .ok (.rt false) else .ok (.nx ())) ∧ (b = true ↔ P)) (e : P ↔ Q) : ∃ b, m = (if b = true then .ok (.rt false) else .ok (.nx ())) ∧ (b = true ↔ Q) := h.imp fun _ ⟨h1, h2⟩ => ⟨h1, h2.trans e⟩
/-- the body of such a loop -/
theorem step_chk {m : R Bool} {P : Prop} (h : Says m P) : ∃ b, (m.bind fun t => if t = true then (upFl (Fl.rt false) : R (Fl Unit Unit Bool)) else R.ok (Fl.nx ())) = (if b = true then .ok (.rt false) else .ok (.nx ())) ∧ (b = true ↔ P) := by
  obtain ⟨b, rfl, h1⟩ := h
  exact ⟨b, by cases b <;> rfl, h1⟩
end Tr
end
section
set_option maxRecDepth 100000
set_option maxHeartbeats 2000000
/-! Tr16: mirrors that give something, by what is known of it. -/
namespace Tr
open PySem L2
variable {α β γ δ ν κ : Type}
def Okd (m : R α) (P : α → Prop) : Prop := ∃ x, m = .ok x ∧ P x
theorem okd_ok {x : α} {P : α → Prop} (h : P x) : Okd (.ok x) P := ⟨x, rfl, h⟩
theorem okd_bind {m : R α} {k : α → R β} {P : α → Prop} {Q : β → Prop} (h : Okd m P) (k2 : ∀ x, P x → Okd (k x) Q) : Okd (m.bind k) Q := by
  obtain ⟨x, rfl, p⟩ := h
  exact k2 x p
theorem okd_unF {m : R α} {k : α → R (Fl Empty Empty β)} {P : α → Prop} {Q : β → Prop} (h : Okd m P) (k2 : ∀ x, P x → Okd (unF (k x)) Q) : Okd (unF (m.bind k)) Q := by
  obtain ⟨x, rfl, p⟩ := h
  exact k2 x p
theorem Okd.imp {m : R α} {P Q : α → Prop} (h : Okd m P) (k : ∀ x, P x → Q x) : Okd m Q := Exists.imp (fun x => And.imp_right (k x)) h
theorem okd_eq {m : R α} {x : α} {P : α → Prop} (e : m = .ok x) (h : P x) : Okd m P := ⟨x, e, h⟩
theorem okd_at {xs : List α} {i : Int} (h0 : 0 ≤ i) (h : i < xs.length) : Okd (atR xs i) (· ∈ xs) := by
  have e : xs[i.toNat]? = some (xs[i.toNat]'(by omega)) := List.getElem?_eq_getElem (by omega)
  exact ⟨_, atR_get h0 e, List.getElem_mem _⟩
theorem okd_mod {i j : Int} (h : 0 < j) : Okd (modR i j) (fun x => 0 ≤ x ∧ x < j) := ⟨_, modR_ok h, Int.emod_nonneg _ (by omega), Int.emod_lt_of_pos _ h⟩
theorem okd_rng {j : Int} (h : j < 2 ^ 62) (h0 : -(2 ^ 62) ≤ j) : Okd (rng1R j) (fun xs => xs.length = j.toNat ∧ ∀ x ∈ xs, 0 ≤ x ∧ x < j) := ⟨_, rng1R_ok h h0, rangeL_length _ _, fun x hx => by rw [rangeL_mem] at hx; omega⟩
theorem okd_sz {xs : List α} {P : List α → Prop} (h : xs.length ≤ 16777216) (p : P xs) : Okd ((szR xs.length).bind fun _ => .ok xs) P := by
  rw [szR_ok h]
  exact ⟨xs, rfl, p⟩
theorem okd_app {xs : List α} {x : α} (h : xs.length < 16777216) : Okd (appR xs x) (· = xs ++ [x]) := ⟨_, appR_ok h, rfl⟩
theorem okd_cat {xs ys : List α} (h : xs.length + ys.length ≤ 16777216) : Okd (catR xs ys) (· = xs ++ ys) := ⟨_, catR_ok h, rfl⟩
theorem cutL_len (xs : List α) (a b : Option Int) : (cutL xs a b).length ≤ xs.length := by
  unfold cutL
  rw [List.length_take, List.length_drop]
  omega
theorem okd_map {g : α → R β} {P : β → Prop} : ∀ {xs : List α}, (∀ x ∈ xs, Okd (g x) P) → Okd (mapR g xs) (fun ys => ys.length = xs.length ∧ ∀ y ∈ ys, P y)
  | [], _ => ⟨[], rfl, rfl, fun y hy => absurd hy (by simp)⟩
  | x :: xs, H => by
    obtain ⟨y, e, p⟩ := H x List.mem_cons_self
    obtain ⟨ys, e2, l, q⟩ := okd_map (g := g) (P := P) (xs := xs) fun z hz => H z (List.mem_cons_of_mem _ hz)
    refine ⟨y :: ys, ?_, by simp [l], fun z hz => ?_⟩
    · show (g x).bind (fun y => (mapR g xs).bind fun ys => .ok (y :: ys)) = _
      rw [e, okb, e2, okb]
    · rcases List.mem_cons.mp hz with e | hz
      · rw [e]; exact p
      · exact q z hz
end Tr
end
section
set_option maxRecDepth 100000
set_option maxHeartbeats 4000000
namespace K73
open PySem L2 Tr
def topS (i : Nat) : Stmt := PySem.Challenge.pw_piecesturned_k73_whole_bars_cut_with_lea.main.body.getD i (.Pass ⟨0, 0, 0, 0⟩)

abbrev s_sum_of : Stmt := topS 1
theorem sc_sum_of : FnScope ["lengths", "numbers", "length", "number"] ["lengths", "numbers"] (defScope s_sum_of) := ⟨rfl, rfl, rfl, by decide +kernel, rfl, by decide +kernel, by decide +kernel⟩
abbrev s_are_numbers : Stmt := topS 2
theorem sc_are_numbers : FnScope ["lengths", "numbers", "goal", "number"] ["lengths", "numbers", "goal"] (defScope s_are_numbers) := ⟨rfl, rfl, rfl, by decide +kernel, rfl, by decide +kernel, by decide +kernel⟩
abbrev s_with_one : Stmt := topS 3
theorem sc_with_one : FnScope ["numbers", "kind", "k", "number"] ["numbers", "kind"] (defScope s_with_one) := ⟨rfl, rfl, rfl, by decide +kernel, rfl, by decide +kernel, by decide +kernel⟩
abbrev s_nearest : Stmt := topS 4
theorem sc_nearest : FnScope ["table", "settled", "some", "k"] ["table", "settled"] (defScope s_nearest) := ⟨rfl, rfl, rfl, by decide +kernel, rfl, by decide +kernel, by decide +kernel⟩
abbrev s_find_cuts : Stmt := topS 5
theorem sc_find_cuts : FnScope ["lengths", "least", "table", "settled", "at", "label", "numbers", "kind", "length", "after"] ["lengths"] (defScope s_find_cuts) := ⟨rfl, rfl, rfl, by decide +kernel, rfl, by decide +kernel, by decide +kernel⟩
abbrev s_is_item : Stmt := topS 6
theorem sc_is_item : FnScope ["lengths", "table", "remainder", "item", "length", "label", "numbers", "after"] ["lengths", "table", "remainder"] (defScope s_is_item) := ⟨rfl, rfl, rfl, by decide +kernel, rfl, by decide +kernel, by decide +kernel⟩
abbrev s_judge_cuts : Stmt := topS 7
theorem sc_judge_cuts : FnScope ["lengths", "table", "remainder"] ["lengths", "table"] (defScope s_judge_cuts) := ⟨rfl, rfl, rfl, by decide +kernel, rfl, by decide +kernel, by decide +kernel⟩
abbrev s_told_by : Stmt := topS 8
theorem sc_told_by : FnScope ["table", "length", "item"] ["table", "length"] (defScope s_told_by) := ⟨rfl, rfl, rfl, by decide +kernel, rfl, by decide +kernel, by decide +kernel⟩
abbrev s_find_waste : Stmt := topS 10
theorem sc_find_waste : FnScope ["lengths", "bar", "table", "waste", "more", "label", "numbers", "some"] ["lengths", "bar"] (defScope s_find_waste) := ⟨rfl, rfl, rfl, by decide +kernel, rfl, by decide +kernel, by decide +kernel⟩
abbrev s_judge_waste : Stmt := topS 11
theorem sc_judge_waste : FnScope ["lengths", "bar", "paper", "waste", "numbers", "table", "some"] ["lengths", "bar", "paper"] (defScope s_judge_waste) := ⟨rfl, rfl, rfl, by decide +kernel, rfl, by decide +kernel, by decide +kernel⟩
abbrev s__law_cell : Stmt := topS 13
theorem sc__law_cell : FnScope ["script", "k"] ["script", "k"] (defScope s__law_cell) := ⟨rfl, rfl, rfl, by decide +kernel, rfl, by decide +kernel, by decide +kernel⟩
abbrev s__law_numbers : Stmt := topS 14
theorem sc__law_numbers : FnScope ["cell", "count", "limit", "found", "k", "mixed"] ["cell", "count", "limit"] (defScope s__law_numbers) := ⟨rfl, rfl, rfl, by decide +kernel, rfl, by decide +kernel, by decide +kernel⟩
abbrev s__law_same : Stmt := topS 15
theorem sc__law_same : FnScope ["told", "due", "k"] ["told", "due"] (defScope s__law_same) := ⟨rfl, rfl, rfl, by decide +kernel, rfl, by decide +kernel, by decide +kernel⟩
abbrev s__law_lengths : Stmt := topS 16
theorem sc__law_lengths : FnScope ["script", "at", "draws", "most", "found", "k", "length"] ["script", "at"] (defScope s__law_lengths) := ⟨rfl, rfl, rfl, by decide +kernel, rfl, by decide +kernel, by decide +kernel⟩
abbrev s__law_labels : Stmt := topS 17
theorem sc__law_labels : FnScope ["lengths", "least", "size", "can", "length", "found", "remainder", "told", "some"] ["lengths"] (defScope s__law_labels) := ⟨rfl, rfl, rfl, by decide +kernel, rfl, by decide +kernel, by decide +kernel⟩
abbrev s__law_sum_of : Stmt := topS 18
theorem sc__law_sum_of : FnScope ["lengths", "numbers", "k"] ["lengths", "numbers"] (defScope s__law_sum_of) := ⟨rfl, rfl, rfl, by decide +kernel, rfl, by decide +kernel, by decide +kernel⟩
abbrev s__law_are_numbers : Stmt := topS 19
theorem sc__law_are_numbers : FnScope ["lengths", "numbers", "goal", "number"] ["lengths", "numbers", "goal"] (defScope s__law_are_numbers) := ⟨rfl, rfl, rfl, by decide +kernel, rfl, by decide +kernel, by decide +kernel⟩
abbrev s__law_accepts_table : Stmt := topS 20
theorem sc__law_accepts_table : FnScope ["lengths", "table", "least", "remainder", "length", "label", "numbers", "after"] ["lengths", "table"] (defScope s__law_accepts_table) := ⟨rfl, rfl, rfl, by decide +kernel, rfl, by decide +kernel, by decide +kernel⟩
abbrev s__law_told_cut : Stmt := topS 21
theorem sc__law_told_cut : FnScope ["table", "length", "item"] ["table", "length"] (defScope s__law_told_cut) := ⟨rfl, rfl, rfl, by decide +kernel, rfl, by decide +kernel, by decide +kernel⟩
abbrev s__law_bent_tables : Stmt := topS 22
theorem sc__law_bent_tables : FnScope ["lengths", "table", "draws", "least", "found", "some", "at", "kind", "more", "turned", "items", "item", "label", "numbers", "k"] ["lengths", "table", "draws"] (defScope s__law_bent_tables) := ⟨rfl, rfl, rfl, by decide +kernel, rfl, by decide +kernel, by decide +kernel⟩
abbrev s__law_accepts : Stmt := topS 23
theorem sc__law_accepts : FnScope ["lengths", "bar", "paper", "some", "waste", "numbers", "table"] ["lengths", "bar", "paper"] (defScope s__law_accepts) := ⟨rfl, rfl, rfl, by decide +kernel, rfl, by decide +kernel, by decide +kernel⟩
abbrev s__law_papers : Stmt := topS 24
theorem sc__law_papers : FnScope ["lengths", "paper", "draws", "least", "kind", "fewer", "more", "found", "other", "waste", "numbers", "table", "k"] ["lengths", "paper", "draws"] (defScope s__law_papers) := ⟨rfl, rfl, rfl, by decide +kernel, rfl, by decide +kernel, by decide +kernel⟩
abbrev s_law : Stmt := topS 25
theorem sc_law : FnScope ["script", "lengths", "kept", "labels", "draws", "great", "told", "bars", "papers", "bar", "waste", "turn", "other", "label", "paper", "answer"] ["script"] (defScope s_law) := ⟨rfl, rfl, rfl, by decide +kernel, rfl, by decide +kernel, by decide +kernel⟩
/-- what is known of the text -/
structure Txt [HasT] (K : PySem.W.Frag) (mg : Str → Option Value) (base : Heap) : Prop where
  f_sum_of : ∃ f fd, mg "sum_of" = some (.ref f) ∧ Fun K "sum_of" "sum_of" s_sum_of f fd ∧ Binds K fd ["lengths", "numbers"] []
  f_are_numbers : ∃ f fd, mg "are_numbers" = some (.ref f) ∧ Fun K "are_numbers" "are_numbers" s_are_numbers f fd ∧ Binds K fd ["lengths", "numbers", "goal"] []
  f_with_one : ∃ f fd, mg "with_one" = some (.ref f) ∧ Fun K "with_one" "with_one" s_with_one f fd ∧ Binds K fd ["numbers", "kind"] []
  f_nearest : ∃ f fd c, mg "nearest" = some (.ref f) ∧ FunL K mg base "nearest" s_nearest f fd c ∧ Binds K fd ["table", "settled"] []
  f_find_cuts : ∃ f fd, mg "find_cuts" = some (.ref f) ∧ Fun K "find_cuts" "find_cuts" s_find_cuts f fd ∧ Binds K fd ["lengths"] []
  f_is_item : ∃ f fd, mg "is_item" = some (.ref f) ∧ Fun K "is_item" "is_item" s_is_item f fd ∧ Binds K fd ["lengths", "table", "remainder"] []
  f_judge_cuts : ∃ f fd, mg "judge_cuts" = some (.ref f) ∧ Fun K "judge_cuts" "judge_cuts" s_judge_cuts f fd ∧ Binds K fd ["lengths", "table"] []
  f_told_by : ∃ f fd, mg "told_by" = some (.ref f) ∧ Fun K "told_by" "told_by" s_told_by f fd ∧ Binds K fd ["table", "length"] []
  f_find_waste : ∃ f fd, mg "find_waste" = some (.ref f) ∧ Fun K "find_waste" "find_waste" s_find_waste f fd ∧ Binds K fd ["lengths", "bar"] []
  f_judge_waste : ∃ f fd, mg "judge_waste" = some (.ref f) ∧ Fun K "judge_waste" "judge_waste" s_judge_waste f fd ∧ Binds K fd ["lengths", "bar", "paper"] []
  f__law_cell : ∃ f fd, mg "_law_cell" = some (.ref f) ∧ Fun K "_law_cell" "_law_cell" s__law_cell f fd ∧ Binds K fd ["script", "k"] []
  f__law_numbers : ∃ f fd, mg "_law_numbers" = some (.ref f) ∧ Fun K "_law_numbers" "_law_numbers" s__law_numbers f fd ∧ Binds K fd ["cell", "count", "limit"] []
  f__law_same : ∃ f fd, mg "_law_same" = some (.ref f) ∧ Fun K "_law_same" "_law_same" s__law_same f fd ∧ Binds K fd ["told", "due"] []
  f__law_lengths : ∃ f fd, mg "_law_lengths" = some (.ref f) ∧ Fun K "_law_lengths" "_law_lengths" s__law_lengths f fd ∧ Binds K fd ["script", "at"] []
  f__law_labels : ∃ f fd, mg "_law_labels" = some (.ref f) ∧ Fun K "_law_labels" "_law_labels" s__law_labels f fd ∧ Binds K fd ["lengths"] []
  f__law_sum_of : ∃ f fd, mg "_law_sum_of" = some (.ref f) ∧ Fun K "_law_sum_of" "_law_sum_of" s__law_sum_of f fd ∧ Binds K fd ["lengths", "numbers"] []
  f__law_are_numbers : ∃ f fd, mg "_law_are_numbers" = some (.ref f) ∧ Fun K "_law_are_numbers" "_law_are_numbers" s__law_are_numbers f fd ∧ Binds K fd ["lengths", "numbers", "goal"] []
  f__law_accepts_table : ∃ f fd, mg "_law_accepts_table" = some (.ref f) ∧ Fun K "_law_accepts_table" "_law_accepts_table" s__law_accepts_table f fd ∧ Binds K fd ["lengths", "table"] []
  f__law_told_cut : ∃ f fd, mg "_law_told_cut" = some (.ref f) ∧ Fun K "_law_told_cut" "_law_told_cut" s__law_told_cut f fd ∧ Binds K fd ["table", "length"] []
  f__law_bent_tables : ∃ f fd, mg "_law_bent_tables" = some (.ref f) ∧ Fun K "_law_bent_tables" "_law_bent_tables" s__law_bent_tables f fd ∧ Binds K fd ["lengths", "table", "draws"] []
  f__law_accepts : ∃ f fd, mg "_law_accepts" = some (.ref f) ∧ Fun K "_law_accepts" "_law_accepts" s__law_accepts f fd ∧ Binds K fd ["lengths", "bar", "paper"] []
  f__law_papers : ∃ f fd, mg "_law_papers" = some (.ref f) ∧ Fun K "_law_papers" "_law_papers" s__law_papers f fd ∧ Binds K fd ["lengths", "paper", "draws"] []
  f_law : ∃ f fd, mg "law" = some (.ref f) ∧ Fun K "law" "law" s_law f fd ∧ Binds K fd ["script"] []
  n_all : mg "all" = none
  n_any : mg "any" = none
  n_bool : mg "bool" = none
  n_enumerate : mg "enumerate" = none
  n_int : mg "int" = none
  n_isinstance : mg "isinstance" = none
  n_len : mg "len" = none
  n_list : mg "list" = none
  n_max : mg "max" = none
  n_min : mg "min" = none
  n_range : mg "range" = none
  n_sorted : mg "sorted" = none
  n_sum : mg "sum" = none
  n_tuple : mg "tuple" = none
  n_zip : mg "zip" = none
set_option maxHeartbeats 4000000 in
def p_sum_of (x : ((List Int) × (List Int) × Unit)) : {m : R (Fl Empty Empty Int) // ∀ [HasT] {P : Program} {w : World} {K : PySem.W.Frag} {mg : Str → Option Value} {base : Heap} (Tx : Txt K mg base) (f : Addr) (cdv : Value) (A : Around) (outer : List PySem.Env) (s : Shared) (H : Hp) (E : XK) (hr : Room 1 (A.deeper (PyProof.Rows.envOfC "sum_of" (defScope s_sum_of) s.heap.objs.size f cdv))) ,
   XS (cxOf CX0 P w K mg base ["lengths", "numbers", "length", "number"] "sum_of" (defScope s_sum_of) f cdv A outer s H E).nox ([some (.sh (tList tInt) x.1), some (.sh (tList tInt) x.2.1)] ++ List.replicate 2 none) (defBody s_sum_of) eNo eNo (kE tInt) m} :=
  ⟨_, fun Tx f cdv A outer s H E hr =>
 (xs_ret (xe_sum rfl (by rfl) Tx.n_sum (xo_ci cv_F_L (xf_lm (own := [("length", 2), ("number", 3)]) rfl sc_sum_of.nd (xic_zip (by rfl) Tx.n_zip (xo_ci cv_E_L (vE 0 rfl rfl)) (xo_ci cv_E_L (vE 1 rfl rfl))) (blkOk_by (N := ["lengths", "numbers", "length", "number"]) (sc := defScope s_sum_of) (by decide +kernel)) (fun s H C cl fp => (xg_tup rfl (xgs_cons (xg_name (i := 2) sc_sum_of.nd rfl (by first | exact .inl rfl | exact .inr rfl)) (xgs_cons (xg_name (i := 3) sc_sum_of.nd rfl (by first | exact .inl rfl | exact .inr rfl)) xgs_nil)) (len_cons (len_cons len_nil)))) (fun s H C cl fp x1 => (xe_mul (vE 2 rfl rfl) (vE 3 rfl rfl)))))))⟩
def m_sum_of (x : ((List Int) × (List Int) × Unit)) : R Int := unF (p_sum_of x).1
theorem d_sum_of [HasT] {P : Program} {w : World} {K : PySem.W.Frag} {mg : Str → Option Value} {base : Heap} (Tx : Txt K mg base) : Def P w K mg base CX0 2 "sum_of" (aCons (tList tInt) (aCons (tList tInt) aNil)) (kE tInt) m_sum_of := by
  obtain ⟨f, fd, hm, F, hb⟩ := Tx.f_sum_of
  exact ⟨f, fd, ["lengths", "numbers"], hm, F.kp, hb, fn_ok F sc_sum_of (ae_cons (ae_cons ae_nil)) rfl (fun _ => rfl) (fun cdv A outer s H E hr x => (p_sum_of x).2 Tx f cdv A outer s H E hr)⟩
set_option maxHeartbeats 4000000 in
def p_are_numbers (x : ((List Int) × (List Int) × Int × Unit)) : {m : R (Fl Empty Empty Bool) // ∀ [HasT] {P : Program} {w : World} {K : PySem.W.Frag} {mg : Str → Option Value} {base : Heap} (Tx : Txt K mg base) (f : Addr) (cdv : Value) (A : Around) (outer : List PySem.Env) (s : Shared) (H : Hp) (E : XK) (hr : Room 2 (A.deeper (PyProof.Rows.envOfC "are_numbers" (defScope s_are_numbers) s.heap.objs.size f cdv))) ,
   XS (cxOf CX0 P w K mg base ["lengths", "numbers", "goal", "number"] "are_numbers" (defScope s_are_numbers) f cdv A outer s H E).nox ([some (.sh (tList tInt) x.1), some (.sh (tList tInt) x.2.1), some (.sh tInt x.2.2.1)] ++ List.replicate 1 none) (defBody s_are_numbers) eNo eNo (kE tBool) m} :=
  ⟨_, fun Tx f cdv A outer s H E hr =>
 (xs_ifR (xw_pt (xw_or (xt_ne (xe_len (by rfl) Tx.n_len (xo_ci cv_E_L (vE 1 rfl rfl))) (xe_len (by rfl) Tx.n_len (xo_ci cv_E_L (vE 0 rfl rfl)))) (xw_or1 (xt_not (xt_val (xe_all rfl (by rfl) Tx.n_all (xo_ci cv_F_L (xf_lm (own := [("number", 3)]) rfl sc_are_numbers.nd (xic_list (xo_ci cv_E_L (vE 1 rfl rfl))) (blkOk_by (N := ["lengths", "numbers", "goal", "number"]) (sc := defScope s_are_numbers) (by decide +kernel)) (fun s H C cl fp => (xg_name (i := 3) sc_are_numbers.nd rfl (by first | exact .inl rfl | exact .inr rfl))) (fun s H C cl fp x1 => (xe_ge (vE 3 rfl rfl) xe_int))))))))))
 (xs_ret xe_bl)
 (xs_ret (xe_eq (xo_call (d_sum_of Tx) (hr.mono (by decide)) (by rfl) (xa_cons (vE 0 rfl rfl) (xa_cons (vE 1 rfl rfl) xa_nil))) (vE 2 rfl rfl))))⟩
def m_are_numbers (x : ((List Int) × (List Int) × Int × Unit)) : R Bool := unF (p_are_numbers x).1
theorem d_are_numbers [HasT] {P : Program} {w : World} {K : PySem.W.Frag} {mg : Str → Option Value} {base : Heap} (Tx : Txt K mg base) : Def P w K mg base CX0 3 "are_numbers" (aCons (tList tInt) (aCons (tList tInt) (aCons tInt aNil))) (kE tBool) m_are_numbers := by
  obtain ⟨f, fd, hm, F, hb⟩ := Tx.f_are_numbers
  exact ⟨f, fd, ["lengths", "numbers", "goal"], hm, F.kp, hb, fn_ok F sc_are_numbers (ae_cons (ae_cons (ae_cons ae_nil))) rfl (fun _ => rfl) (fun cdv A outer s H E hr x => (p_are_numbers x).2 Tx f cdv A outer s H E hr)⟩
set_option maxHeartbeats 4000000 in
def p_with_one (x : ((List Int) × Int × Unit)) : {m : R (Fl Empty Empty (List Int)) // ∀ [HasT] {P : Program} {w : World} {K : PySem.W.Frag} {mg : Str → Option Value} {base : Heap} (Tx : Txt K mg base) (f : Addr) (cdv : Value) (A : Around) (outer : List PySem.Env) (s : Shared) (H : Hp) (E : XK) (hr : Room 1 (A.deeper (PyProof.Rows.envOfC "with_one" (defScope s_with_one) s.heap.objs.size f cdv))) ,
   XS (cxOf CX0 P w K mg base ["numbers", "kind", "k", "number"] "with_one" (defScope s_with_one) f cdv A outer s H E).nox ([some (.sh (tList tInt) x.1), some (.sh tInt x.2.1)] ++ List.replicate 2 none) (defBody s_with_one) eNo eNo (kF tInt) m} :=
  ⟨_, fun Tx f cdv A outer s H E hr =>
 (xs_ret (xf_lm (own := [("k", 2), ("number", 3)]) rfl sc_with_one.nd (xic_enum (by rfl) Tx.n_enumerate (xo_ci cv_E_L (vE 0 rfl rfl))) (blkOk_by (N := ["numbers", "kind", "k", "number"]) (sc := defScope s_with_one) (by decide +kernel)) (fun s H C cl fp => (xg_tup rfl (xgs_cons (xg_name (i := 2) sc_with_one.nd rfl (by first | exact .inl rfl | exact .inr rfl)) (xgs_cons (xg_name (i := 3) sc_with_one.nd rfl (by first | exact .inl rfl | exact .inr rfl)) xgs_nil)) (len_cons (len_cons len_nil)))) (fun s H C cl fp x1 => (xe_add (vE 3 rfl rfl) (xe_intB (by rfl) Tx.n_int (xe_eq (vE 2 rfl rfl) (vE 1 rfl rfl)))))))⟩
def m_with_one (x : ((List Int) × Int × Unit)) : R (List Int) := unF (p_with_one x).1
theorem d_with_one [HasT] {P : Program} {w : World} {K : PySem.W.Frag} {mg : Str → Option Value} {base : Heap} (Tx : Txt K mg base) : Def P w K mg base CX0 2 "with_one" (aCons (tList tInt) (aCons tInt aNil)) (kF tInt) m_with_one := by
  obtain ⟨f, fd, hm, F, hb⟩ := Tx.f_with_one
  exact ⟨f, fd, ["numbers", "kind"], hm, F.kp, hb, fn_ok F sc_with_one (ae_cons (ae_cons ae_nil)) rfl (fun _ => rfl) (fun cdv A outer s H E hr x => (p_with_one x).2 Tx f cdv A outer s H E hr)⟩
set_option maxHeartbeats 4000000 in
def p_nearest (x : ((List (Option (Int × (List Int) × Unit))) × (List (Key × Bool)) × Unit)) : {m : R (Fl Empty Empty (Option Int)) // ∀ [HasT] {P : Program} {w : World} {K : PySem.W.Frag} {mg : Str → Option Value} {base : Heap} (Tx : Txt K mg base) (f : Addr) (cdv : Value) (A : Around) (outer : List PySem.Env) (s : Shared) (H : Hp) (E : XK) (hr : Room 3 (A.deeper (PyProof.Rows.envOfC "nearest" (defScope s_nearest) s.heap.objs.size f cdv))) (la : LamAt (cxOf CX0 P w K mg base ["table", "settled", "some", "k"] "nearest" (defScope s_nearest) f cdv A outer s H E).nox) ,
   XS (cxOf CX0 P w K mg base ["table", "settled", "some", "k"] "nearest" (defScope s_nearest) f cdv A outer s H E).nox ([some (.sh (tList (tOpt (tT (aCons tInt (aCons (tList tInt) aNil))))) x.1), some (.sh (tDct tBool) x.2.1)] ++ List.replicate 2 none) (defBody s_nearest) eNo eNo (kE (tOpt tInt)) m} :=
  ⟨_, fun Tx f cdv A outer s H E hr la =>
 (xs_setLc (i := 2) (own := [("k", 3)]) rfl sc_nearest.nd rfl rfl rfl (xic_range1 (by rfl) Tx.n_range (xe_len (by rfl) Tx.n_len (xo_ci cv_E_L (vE 0 rfl rfl)))) (blkOk_by (N := ["table", "settled", "some", "k"]) (sc := defScope s_nearest) (by decide +kernel)) (fun s H C cl fp => (xg_name (i := 3) sc_nearest.nd rfl (by first | exact .inl rfl | exact .inr rfl))) (fun s H C cl fp x2 => xts_one (xw_pt (xw_and (xt_notN (xe_ix (xo_ci cv_E_L (vE 0 rfl rfl)) (vE 3 rfl rfl))) (xw_and1 (xt_ninD hr (vE 3 rfl rfl) (xo_ci cv_E_P (vE 1 rfl rfl))))))) (fun s H C cl fp x2 => (vE 3 rfl rfl)) (fun v1 =>
 (xs_freeze 2 rfl
 (xs_ifR (xt_not (xt_tru (xo_ci cv_N_L (vE 2 rfl rfl))))
 (xs_ret (xe_noneO (t := tInt)))
 (xs_ret (xo_cv (cv_T cvt_some) (xe_minKey 3 (k := 0) la (hr.mono (by decide)) (by rfl) Tx.n_min (xo_ci cv_N_L (vE 2 rfl rfl)) (show Lam1 (defScope s_nearest) _ _ from lam1_by (by decide +kernel)) sc_nearest.nd rfl rfl (fun _ _ _ _ => rfl) (fun A outer s H E f c' hr x3 => (xe_nth (k := 0) (xo_cp cp_get (xe_ix (xo_ci cv_E_L (vE 0 rfl rfl)) (vE 3 rfl rfl))) nth0)))))))))⟩
def m_nearest (x : ((List (Option (Int × (List Int) × Unit))) × (List (Key × Bool)) × Unit)) : R (Option Int) := unF (p_nearest x).1
theorem d_nearest [HasT] {P : Program} {w : World} {K : PySem.W.Frag} {mg : Str → Option Value} {base : Heap} (Tx : Txt K mg base) : Def P w K mg base CX0 4 "nearest" (aCons (tList (tOpt (tT (aCons tInt (aCons (tList tInt) aNil))))) (aCons (tDct tBool) aNil)) (kE (tOpt tInt)) m_nearest := by
  obtain ⟨f, fd, c, hm, F, hb⟩ := Tx.f_nearest
  exact ⟨f, fd, ["table", "settled"], hm, F.kp, hb, fn_okL F sc_nearest (ae_cons (ae_cons ae_nil)) rfl (fun _ => rfl) (fun A outer s H E hr la x => (p_nearest x).2 Tx f (.ref c) A outer s H E hr la)⟩
set_option maxHeartbeats 4000000 in
def p_find_cuts (x : ((List Int) × Unit)) : {m : R (Fl Empty Empty (List (Option (Int × (List Int) × Unit)))) // ∀ [HasT] {P : Program} {w : World} {K : PySem.W.Frag} {mg : Str → Option Value} {base : Heap} (Tx : Txt K mg base) (f : Addr) (cdv : Value) (A : Around) (outer : List PySem.Env) (s : Shared) (H : Hp) (E : XK) (hr : Room 4 (A.deeper (PyProof.Rows.envOfC "find_cuts" (defScope s_find_cuts) s.heap.objs.size f cdv))) ,
   XS (cxOf CX0 P w K mg base ["lengths", "least", "table", "settled", "at", "label", "numbers", "kind", "length", "after"] "find_cuts" (defScope s_find_cuts) f cdv A outer s H E).nox ([some (.sh (tList tInt) x.1)] ++ List.replicate 9 none) (defBody s_find_cuts) eNo eNo (kF (tOpt (tT (aCons tInt (aCons (tListN tInt) aNil))))) m} :=
  ⟨_, fun Tx f cdv A outer s H E hr =>
 (xs_set (i := 1) sc_find_cuts.nd rfl (by first | exact .inl rfl | exact .inr rfl) (xe_ix (xo_ci cv_E_L (vE 0 rfl rfl)) xe_int) (fun v1 =>
 (xs_setF (i := 2) sc_find_cuts.nd rfl (by first | exact .inl rfl | exact .inr rfl) (xf_rep (xo_ci cv_F_L (xf_lst (t := (tOpt (tT (aCons tInt (aCons (tListN tInt) aNil))))) (xl_cons (xe_noneO (t := (tT (aCons tInt (aCons (tListN tInt) aNil))))) xl_nil))) (vE 1 rfl rfl)) (fun v2 =>
 (xs_setitem 2 rfl rfl (by first | exact Or.inl rfl | exact Or.inr (Or.inl rfl) | exact Or.inr (Or.inr rfl)) xe_int (xo_cv (cv_T cvt_some) (xe_tup (xa_cons xe_int (xa_cons (xe_F (xf_rep (xo_ci cv_F_L (xf_lst (t := tInt) (xl_cons xe_int xl_nil))) (xe_len (by rfl) Tx.n_len (xo_ci cv_E_L (vE 0 rfl rfl))))) xa_nil)) (hz_of (len_cons (len_cons len_nil)) (by decide)))) (fun v3 =>
 (xs_setD0 tBool sc_find_cuts.nd (i := 3) rfl (by first | exact .inl rfl | exact .inr rfl)
 (xs_set (i := 4) sc_find_cuts.nd rfl (by first | exact .inl rfl | exact .inr rfl) (xo_cv (cv_T cvt_some) xe_int) (fun v5 =>
 (xs_while (s0 := (v3, [], v5, ())) 1000 (fun (s : (List (Option (Int × (List Int) × Unit))) × (List (Key × Bool)) × (Option Int) × Unit) => ([(some (.sh (tList tInt) x.1)), (some (.sh tInt v1)), (some (.ol (tOpt (tT (aCons tInt (aCons (tListN tInt) aNil)))) s.1)), (some (.ow (owD tBool) s.2.1)), (some (.sh (tOpt tInt) s.2.2.1)), none, none, none, none, none] : Tr.Env)) PassesOwn.never (.keep (.keep (.keep (.keep (.keep (.drop (.drop (.drop (.drop (.drop .nil)))))))))) (fun s6 => (xt_notN (vE 4 rfl rfl))) (fun s6 =>
 (xs_dput 3 rfl hr rfl (by first | exact Or.inl rfl | exact Or.inr (Or.inl rfl) | exact Or.inr (Or.inr rfl)) (xo_cp cp_get (vE 4 rfl rfl)) xe_bl (fun v7 =>
 (xs_unpack (xo_cp cp_get (xe_ix (vL 2 rfl rfl) (xo_cp cp_get (vE 4 rfl rfl)))) (xg_tup rfl (xgs_cons (xg_name (i := 5) sc_find_cuts.nd rfl (by first | exact .inl rfl | exact .inr rfl)) (xgs_cons (xg_name (i := 6) sc_find_cuts.nd rfl (by first | exact .inl rfl | exact .inr rfl)) xgs_nil)) (len_cons (len_cons len_nil))) (fun v8 =>
 (xs_for (s0 := (s6.1, ())) (fun (s : (List (Option (Int × (List Int) × Unit))) × Unit) => ([(some (.sh (tList tInt) x.1)), (some (.sh tInt v1)), (some (.ol (tOpt (tT (aCons tInt (aCons (tListN tInt) aNil)))) s.1)), (some (.ow (owD tBool) v7)), (some (.sh (tOpt tInt) s6.2.2.1)), (some (.sh tInt v8.1)), (some (.sh (tListN tInt) v8.2.1)), none, none, none] : Tr.Env)) PassesOwn.never rfl (xi_enum (by rfl) Tx.n_enumerate (vE 0 rfl rfl)) (xg_tup rfl (xgs_cons (xg_name (i := 7) sc_find_cuts.nd rfl (by first | exact .inl rfl | exact .inr rfl)) (xgs_cons (xg_name (i := 8) sc_find_cuts.nd rfl (by first | exact .inl rfl | exact .inr rfl)) xgs_nil)) (len_cons (len_cons len_nil))) (.keep (.keep (.keep (.keep (.keep (.keep (.keep (.drop (.drop (.drop .nil)))))))))) (fun s10 x9 =>
 (xs_set (i := 9) sc_find_cuts.nd rfl (by first | exact .inl rfl | exact .inr rfl) (xe_mod (xe_add (vE 5 rfl rfl) (vE 8 rfl rfl)) (vE 1 rfl rfl)) (fun v11 =>
 (xs_ifE (xw_pt (xw_or (xt_isN (xe_ix (vL 2 rfl rfl) (vE 9 rfl rfl))) (xw_or1 (xt_lt (xe_add (vE 5 rfl rfl) (vE 8 rfl rfl)) (xe_nth (k := 0) (xo_cp cp_get (xe_ix (vL 2 rfl rfl) (vE 9 rfl rfl))) nth0)))))
 (xs_setitem 2 rfl rfl (by first | exact Or.inl rfl | exact Or.inr (Or.inl rfl) | exact Or.inr (Or.inr rfl)) (vE 9 rfl rfl) (xo_cv (cv_T cvt_some) (xe_tup (xa_cons (xe_add (vE 5 rfl rfl) (vE 8 rfl rfl)) (xa_cons (xe_F (xo_call (d_with_one Tx) (hr.mono (by decide)) (by rfl) (xa_cons (xo_ci (cv_E (sub_N Sub.rfl)) (vE 6 rfl rfl)) (xa_cons (vE 7 rfl rfl) xa_nil)))) xa_nil)) (hz_of (len_cons (len_cons len_nil)) (by decide)))) (fun v12 =>
 (xs_nil (s := (v12, ())) (.keep (.keep (.keep (.keep (.keep (.keep (.keep (.drop (.drop (.drop .nil)))))))))))))
 (xs_nil (s := (s10.1, ())) (.keep (.keep (.keep (.keep (.keep (.keep (.keep (.drop (.drop (.drop .nil))))))))))))))) (fun s13 =>
 (xs_set (i := 4) sc_find_cuts.nd rfl (by first | exact .inl rfl | exact .inr rfl) (xo_callP (d_nearest Tx) (hr.mono (by decide)) (by rfl) (xap_cons (xo_ci (cv_P (sub_N (sub_O (sub_T (suba_cons Sub.rfl (suba_cons (sub_N Sub.rfl) suba_nil)))))) (vP 2 rfl rfl)) (xap_cons (xp_varD 3 rfl rfl) xap_nil))) (fun v14 =>
 (xs_nil (s := (s13.1, v7, v14, ())) (.keep (.keep (.keep (.keep (.keep (.drop (.drop (.drop (.drop (.drop .nil)))))))))))))))))))) (fun s15 =>
 (xs_retO 2 rfl rfl))))))))))))⟩
def m_find_cuts (x : ((List Int) × Unit)) : R (List (Option (Int × (List Int) × Unit))) := unF (p_find_cuts x).1
theorem d_find_cuts [HasT] {P : Program} {w : World} {K : PySem.W.Frag} {mg : Str → Option Value} {base : Heap} (Tx : Txt K mg base) : Def P w K mg base CX0 5 "find_cuts" (aCons (tList tInt) aNil) (kF (tOpt (tT (aCons tInt (aCons (tListN tInt) aNil))))) m_find_cuts := by
  obtain ⟨f, fd, hm, F, hb⟩ := Tx.f_find_cuts
  exact ⟨f, fd, ["lengths"], hm, F.kp, hb, fn_ok F sc_find_cuts (ae_cons ae_nil) rfl (fun _ => rfl) (fun cdv A outer s H E hr x => (p_find_cuts x).2 Tx f cdv A outer s H E hr)⟩
set_option maxHeartbeats 4000000 in
def p_is_item (x : ((List Int) × (List (Option (Int × (List Int) × Unit))) × Int × Unit)) : {m : R (Fl Empty Empty Bool) // ∀ [HasT] {P : Program} {w : World} {K : PySem.W.Frag} {mg : Str → Option Value} {base : Heap} (Tx : Txt K mg base) (f : Addr) (cdv : Value) (A : Around) (outer : List PySem.Env) (s : Shared) (H : Hp) (E : XK) (hr : Room 3 (A.deeper (PyProof.Rows.envOfC "is_item" (defScope s_is_item) s.heap.objs.size f cdv))) ,
   XS (cxOf CX0 P w K mg base ["lengths", "table", "remainder", "item", "length", "label", "numbers", "after"] "is_item" (defScope s_is_item) f cdv A outer s H E).nox ([some (.sh (tList tInt) x.1), some (.sh (tList (tOpt (tT (aCons tInt (aCons (tList tInt) aNil))))) x.2.1), some (.sh tInt x.2.2.1)] ++ List.replicate 5 none) (defBody s_is_item) eNo eNo (kE tBool) m} :=
  ⟨_, fun Tx f cdv A outer s H E hr =>
 (xs_set (i := 3) sc_is_item.nd rfl (by first | exact .inl rfl | exact .inr rfl) (xe_ix (xo_ci cv_E_L (vE 1 rfl rfl)) (vE 2 rfl rfl)) (fun v1 =>
 (xs_ifR (xt_isN (vE 3 rfl rfl))
 (xs_ret xe_bl)
 (xs_unpack (xo_cp cp_get (vE 3 rfl rfl)) (xg_tup rfl (xgs_cons (xg_name (i := 5) sc_is_item.nd rfl (by first | exact .inl rfl | exact .inr rfl)) (xgs_cons (xg_name (i := 6) sc_is_item.nd rfl (by first | exact .inl rfl | exact .inr rfl)) xgs_nil)) (len_cons (len_cons len_nil))) (fun v2 =>
 (xs_ifR (xw_pt (xw_or (xt_not (xt_val (xo_call (d_are_numbers Tx) (hr.mono (by decide)) (by rfl) (xa_cons (vE 0 rfl rfl) (xa_cons (vE 6 rfl rfl) (xa_cons (vE 5 rfl rfl) xa_nil)))))) (xw_or1 (xt_ne (xe_mod (vE 5 rfl rfl) (xe_ix (xo_ci cv_E_L (vE 0 rfl rfl)) xe_int)) (vE 2 rfl rfl)))))
 (xs_ret xe_bl)
 (xs_for (s0 := (())) (fun (s : Unit) => ([(some (.sh (tList tInt) x.1)), (some (.sh (tList (tOpt (tT (aCons tInt (aCons (tList tInt) aNil))))) x.2.1)), (some (.sh tInt x.2.2.1)), (some (.sh (tOpt (tT (aCons tInt (aCons (tList tInt) aNil)))) v1)), none, (some (.sh tInt v2.1)), (some (.sh (tList tInt) v2.2.1)), none] : Tr.Env)) PassesOwn.never rfl (xi_list (vE 0 rfl rfl)) (xg_name (i := 4) sc_is_item.nd rfl (by first | exact .inl rfl | exact .inr rfl)) (.keep (.keep (.keep (.keep (.drop (.keep (.keep (.drop .nil)))))))) (fun s4 x3 =>
 (xs_set (i := 7) sc_is_item.nd rfl (by first | exact .inl rfl | exact .inr rfl) (xe_ix (xo_ci cv_E_L (vE 1 rfl rfl)) (xe_mod (xe_add (vE 5 rfl rfl) (vE 4 rfl rfl)) (xe_ix (xo_ci cv_E_L (vE 0 rfl rfl)) xe_int))) (fun v5 =>
 (xs_ifR (xw_pt (xw_or (xt_isN (vE 7 rfl rfl)) (xw_or1 (xt_gt (xe_nth (k := 0) (xo_cp cp_get (vE 7 rfl rfl)) nth0) (xe_add (vE 5 rfl rfl) (vE 4 rfl rfl))))))
 (xs_ret xe_bl)
 (xs_nil (s := (())) (.keep (.keep (.keep (.keep (.drop (.keep (.keep (.drop .nil))))))))))))) (fun s6 =>
 (xs_ret xe_bl)))))))))⟩
def m_is_item (x : ((List Int) × (List (Option (Int × (List Int) × Unit))) × Int × Unit)) : R Bool := unF (p_is_item x).1
theorem d_is_item [HasT] {P : Program} {w : World} {K : PySem.W.Frag} {mg : Str → Option Value} {base : Heap} (Tx : Txt K mg base) : Def P w K mg base CX0 4 "is_item" (aCons (tList tInt) (aCons (tList (tOpt (tT (aCons tInt (aCons (tList tInt) aNil))))) (aCons tInt aNil))) (kE tBool) m_is_item := by
  obtain ⟨f, fd, hm, F, hb⟩ := Tx.f_is_item
  exact ⟨f, fd, ["lengths", "table", "remainder"], hm, F.kp, hb, fn_ok F sc_is_item (ae_cons (ae_cons (ae_cons ae_nil))) rfl (fun _ => rfl) (fun cdv A outer s H E hr x => (p_is_item x).2 Tx f cdv A outer s H E hr)⟩
set_option maxHeartbeats 4000000 in
def p_judge_cuts (x : ((List Int) × (List (Option (Int × (List Int) × Unit))) × Unit)) : {m : R (Fl Empty Empty Bool) // ∀ [HasT] {P : Program} {w : World} {K : PySem.W.Frag} {mg : Str → Option Value} {base : Heap} (Tx : Txt K mg base) (f : Addr) (cdv : Value) (A : Around) (outer : List PySem.Env) (s : Shared) (H : Hp) (E : XK) (hr : Room 4 (A.deeper (PyProof.Rows.envOfC "judge_cuts" (defScope s_judge_cuts) s.heap.objs.size f cdv))) ,
   XS (cxOf CX0 P w K mg base ["lengths", "table", "remainder"] "judge_cuts" (defScope s_judge_cuts) f cdv A outer s H E).nox ([some (.sh (tList tInt) x.1), some (.sh (tList (tOpt (tT (aCons tInt (aCons (tList tInt) aNil))))) x.2.1)] ++ List.replicate 1 none) (defBody s_judge_cuts) eNo eNo (kE tBool) m} :=
  ⟨_, fun Tx f cdv A outer s H E hr =>
 (xs_ifR (xw_pt (xw_or (xt_ne (xe_len (by rfl) Tx.n_len (xo_ci cv_E_L (vE 1 rfl rfl))) (xe_ix (xo_ci cv_E_L (vE 0 rfl rfl)) xe_int)) (xw_or (xt_isN (xe_ix (xo_ci cv_E_L (vE 1 rfl rfl)) xe_int)) (xw_or1 (xt_ne (xe_nth (k := 0) (xo_cp cp_get (xe_ix (xo_ci cv_E_L (vE 1 rfl rfl)) xe_int)) nth0) xe_int)))))
 (xs_ret xe_bl)
 (xs_ret (xe_all rfl (by rfl) Tx.n_all (xo_ci cv_F_L (xf_lm (own := [("remainder", 2)]) rfl sc_judge_cuts.nd (xic_range1 (by rfl) Tx.n_range (xe_len (by rfl) Tx.n_len (xo_ci cv_E_L (vE 1 rfl rfl)))) (blkOk_by (N := ["lengths", "table", "remainder"]) (sc := defScope s_judge_cuts) (by decide +kernel)) (fun s H C cl fp => (xg_name (i := 2) sc_judge_cuts.nd rfl (by first | exact .inl rfl | exact .inr rfl))) (fun s H C cl fp x1 => (xo_call (d_is_item Tx) (hr.mono (by decide)) (by rfl) (xa_cons (vE 0 rfl rfl) (xa_cons (vE 1 rfl rfl) (xa_cons (vE 2 rfl rfl) xa_nil))))))))))⟩
def m_judge_cuts (x : ((List Int) × (List (Option (Int × (List Int) × Unit))) × Unit)) : R Bool := unF (p_judge_cuts x).1
theorem d_judge_cuts [HasT] {P : Program} {w : World} {K : PySem.W.Frag} {mg : Str → Option Value} {base : Heap} (Tx : Txt K mg base) : Def P w K mg base CX0 5 "judge_cuts" (aCons (tList tInt) (aCons (tList (tOpt (tT (aCons tInt (aCons (tList tInt) aNil))))) aNil)) (kE tBool) m_judge_cuts := by
  obtain ⟨f, fd, hm, F, hb⟩ := Tx.f_judge_cuts
  exact ⟨f, fd, ["lengths", "table"], hm, F.kp, hb, fn_ok F sc_judge_cuts (ae_cons (ae_cons ae_nil)) rfl (fun _ => rfl) (fun cdv A outer s H E hr x => (p_judge_cuts x).2 Tx f cdv A outer s H E hr)⟩
set_option maxHeartbeats 4000000 in
def p_told_by (x : ((List (Option (Int × (List Int) × Unit))) × Int × Unit)) : {m : R (Fl Empty Empty Bool) // ∀ [HasT] {P : Program} {w : World} {K : PySem.W.Frag} {mg : Str → Option Value} {base : Heap} (Tx : Txt K mg base) (f : Addr) (cdv : Value) (A : Around) (outer : List PySem.Env) (s : Shared) (H : Hp) (E : XK) (hr : Room 1 (A.deeper (PyProof.Rows.envOfC "told_by" (defScope s_told_by) s.heap.objs.size f cdv))) ,
   XS (cxOf CX0 P w K mg base ["table", "length", "item"] "told_by" (defScope s_told_by) f cdv A outer s H E).nox ([some (.sh (tList (tOpt (tT (aCons tInt (aCons (tList tInt) aNil))))) x.1), some (.sh tInt x.2.1)] ++ List.replicate 1 none) (defBody s_told_by) eNo eNo (kE tBool) m} :=
  ⟨_, fun Tx f cdv A outer s H E hr =>
 (xs_set (i := 2) sc_told_by.nd rfl (by first | exact .inl rfl | exact .inr rfl) (xe_ix (xo_ci cv_E_L (vE 0 rfl rfl)) (xe_mod (vE 1 rfl rfl) (xe_len (by rfl) Tx.n_len (xo_ci cv_E_L (vE 0 rfl rfl))))) (fun v1 =>
 (xs_ret (xe_and (xe_notN (vE 2 rfl rfl)) (xe_one (xe_le (xe_nth (k := 0) (xo_cp cp_get (vE 2 rfl rfl)) nth0) (vE 1 rfl rfl)))))))⟩
def m_told_by (x : ((List (Option (Int × (List Int) × Unit))) × Int × Unit)) : R Bool := unF (p_told_by x).1
theorem d_told_by [HasT] {P : Program} {w : World} {K : PySem.W.Frag} {mg : Str → Option Value} {base : Heap} (Tx : Txt K mg base) : Def P w K mg base CX0 2 "told_by" (aCons (tList (tOpt (tT (aCons tInt (aCons (tList tInt) aNil))))) (aCons tInt aNil)) (kE tBool) m_told_by := by
  obtain ⟨f, fd, hm, F, hb⟩ := Tx.f_told_by
  exact ⟨f, fd, ["table", "length"], hm, F.kp, hb, fn_ok F sc_told_by (ae_cons (ae_cons ae_nil)) rfl (fun _ => rfl) (fun cdv A outer s H E hr x => (p_told_by x).2 Tx f cdv A outer s H E hr)⟩
set_option maxHeartbeats 4000000 in
def p_find_waste (x : ((List Int) × Int × Unit)) : {m : R (Fl Empty Empty (Int × (List Int) × (List (Option (Int × (List Int) × Unit))) × Unit)) // ∀ [HasT] {P : Program} {w : World} {K : PySem.W.Frag} {mg : Str → Option Value} {base : Heap} (Tx : Txt K mg base) (f : Addr) (cdv : Value) (A : Around) (outer : List PySem.Env) (s : Shared) (H : Hp) (E : XK) (hr : Room 5 (A.deeper (PyProof.Rows.envOfC "find_waste" (defScope s_find_waste) s.heap.objs.size f cdv))) ,
   XS (cxOf CX0 P w K mg base ["lengths", "bar", "table", "waste", "more", "label", "numbers", "some"] "find_waste" (defScope s_find_waste) f cdv A outer s H E).nox ([some (.sh (tList tInt) x.1), some (.sh tInt x.2.1)] ++ List.replicate 6 none) (defBody s_find_waste) eNo eNo (kE (tT (aCons tInt (aCons (tListN tInt) (aCons (tListN (tOpt (tT (aCons tInt (aCons (tListN tInt) aNil))))) aNil))))) m} :=
  ⟨_, fun Tx f cdv A outer s H E hr =>
 (xs_set (i := 2) sc_find_waste.nd rfl (by first | exact .inl rfl | exact .inr rfl) (xe_F (xo_call (d_find_cuts Tx) (hr.mono (by decide)) (by rfl) (xa_cons (vE 0 rfl rfl) xa_nil))) (fun v1 =>
 (xs_set (i := 3) sc_find_waste.nd rfl (by first | exact .inl rfl | exact .inr rfl) (xe_ix (xo_ci cv_F_L (xf_lc (own := [("some", 7)]) rfl sc_find_waste.nd (xic_range1 (by rfl) Tx.n_range (xe_min2 rfl (by rfl) Tx.n_min (xa_cons (xe_add (vE 1 rfl rfl) xe_int) (xa_cons (xe_ix (xo_ci cv_E_L (vE 0 rfl rfl)) xe_int) xa_nil)))) (blkOk_by (N := ["lengths", "bar", "table", "waste", "more", "label", "numbers", "some"]) (sc := defScope s_find_waste) (by decide +kernel)) (fun s H C cl fp => (xg_name (i := 7) sc_find_waste.nd rfl (by first | exact .inl rfl | exact .inr rfl))) (fun s H C cl fp x3 => xts_one (xt_val (xo_call (d_told_by Tx) (hr.mono (by decide)) (by rfl) (xa_cons (xo_ci (cv_E (sub_N (sub_O (sub_T (suba_cons Sub.rfl (suba_cons (sub_N Sub.rfl) suba_nil)))))) (vE 2 rfl rfl)) (xa_cons (xe_sub (vE 1 rfl rfl) (vE 7 rfl rfl)) xa_nil))))) (fun s H C cl fp x3 => (vE 7 rfl rfl)))) xe_int) (fun v2 =>
 (xs_unpack (xo_cp cp_get (xe_ix (xo_ci cv_N_L (vE 2 rfl rfl)) (xe_mod (xe_sub (vE 1 rfl rfl) (vE 3 rfl rfl)) (xe_ix (xo_ci cv_E_L (vE 0 rfl rfl)) xe_int)))) (xg_tup rfl (xgs_cons (xg_name (i := 5) sc_find_waste.nd rfl (by first | exact .inl rfl | exact .inr rfl)) (xgs_cons (xg_name (i := 6) sc_find_waste.nd rfl (by first | exact .inl rfl | exact .inr rfl)) xgs_nil)) (len_cons (len_cons len_nil))) (fun v4 =>
 (xs_set (i := 4) sc_find_waste.nd rfl (by first | exact .inl rfl | exact .inr rfl) (xe_fdiv (xe_sub (xe_sub (vE 1 rfl rfl) (vE 3 rfl rfl)) (vE 5 rfl rfl)) (xe_ix (xo_ci cv_E_L (vE 0 rfl rfl)) xe_int)) (fun v5 =>
 (xs_ret (xe_tup (xa_cons (vE 3 rfl rfl) (xa_cons (xe_F (xf_cat (xo_ci cv_F_L (xf_lst (t := tInt) (xl_cons (xe_add (xe_ix (xo_ci cv_N_L (vE 6 rfl rfl)) xe_int) (vE 4 rfl rfl)) xl_nil))) (xo_ci cv_F_L (xf_slice (xo_ci cv_N_L (vE 6 rfl rfl)) (xp_some xe_int) xp_none)))) (xa_cons (vE 2 rfl rfl) xa_nil))) (hz_of (len_cons (len_cons (len_cons len_nil))) (by decide))))))))))))⟩
def m_find_waste (x : ((List Int) × Int × Unit)) : R (Int × (List Int) × (List (Option (Int × (List Int) × Unit))) × Unit) := unF (p_find_waste x).1
theorem d_find_waste [HasT] {P : Program} {w : World} {K : PySem.W.Frag} {mg : Str → Option Value} {base : Heap} (Tx : Txt K mg base) : Def P w K mg base CX0 6 "find_waste" (aCons (tList tInt) (aCons tInt aNil)) (kE (tT (aCons tInt (aCons (tListN tInt) (aCons (tListN (tOpt (tT (aCons tInt (aCons (tListN tInt) aNil))))) aNil))))) m_find_waste := by
  obtain ⟨f, fd, hm, F, hb⟩ := Tx.f_find_waste
  exact ⟨f, fd, ["lengths", "bar"], hm, F.kp, hb, fn_ok F sc_find_waste (ae_cons (ae_cons ae_nil)) rfl (fun _ => rfl) (fun cdv A outer s H E hr x => (p_find_waste x).2 Tx f cdv A outer s H E hr)⟩
set_option maxHeartbeats 4000000 in
def p_judge_waste (x : ((List Int) × Int × (Option (Int × (List Int) × (List (Option (Int × (List Int) × Unit))) × Unit)) × Unit)) : {m : R (Fl Empty Empty Bool) // ∀ [HasT] {P : Program} {w : World} {K : PySem.W.Frag} {mg : Str → Option Value} {base : Heap} (Tx : Txt K mg base) (f : Addr) (cdv : Value) (A : Around) (outer : List PySem.Env) (s : Shared) (H : Hp) (E : XK) (hr : Room 5 (A.deeper (PyProof.Rows.envOfC "judge_waste" (defScope s_judge_waste) s.heap.objs.size f cdv))) ,
   XS (cxOf CX0 P w K mg base ["lengths", "bar", "paper", "waste", "numbers", "table", "some"] "judge_waste" (defScope s_judge_waste) f cdv A outer s H E).nox ([some (.sh (tList tInt) x.1), some (.sh tInt x.2.1), some (.sh (tOdd 3 (aCons tInt (aCons (tList tInt) (aCons (tList (tOpt (tT (aCons tInt (aCons (tList tInt) aNil))))) aNil)))) x.2.2.1)] ++ List.replicate 4 none) (defBody s_judge_waste) eNo eNo (kE tBool) m} :=
  ⟨_, fun Tx f cdv A outer s H E hr =>
 (xs_ifR (xt_lenOdd (n := 3) (len_cons (len_cons (len_cons len_nil))) (by rfl) Tx.n_len (vE 2 rfl rfl))
 (xs_ret xe_bl)
 (xs_unpack (xo_cp cp_odd (vE 2 rfl rfl)) (xg_tup rfl (xgs_cons (xg_name (i := 3) sc_judge_waste.nd rfl (by first | exact .inl rfl | exact .inr rfl)) (xgs_cons (xg_name (i := 4) sc_judge_waste.nd rfl (by first | exact .inl rfl | exact .inr rfl)) (xgs_cons (xg_name (i := 5) sc_judge_waste.nd rfl (by first | exact .inl rfl | exact .inr rfl)) xgs_nil))) (len_cons (len_cons (len_cons len_nil)))) (fun v1 =>
 (xs_ifR (xw_pt (xw_or (xt_not (xt_val (xo_call (d_judge_cuts Tx) (hr.mono (by decide)) (by rfl) (xa_cons (vE 0 rfl rfl) (xa_cons (vE 5 rfl rfl) xa_nil))))) (xw_or (xt_lt (vE 3 rfl rfl) xe_int) (xw_or1 (xt_not (xt_val (xo_call (d_are_numbers Tx) (hr.mono (by decide)) (by rfl) (xa_cons (vE 0 rfl rfl) (xa_cons (vE 4 rfl rfl) (xa_cons (xe_sub (vE 1 rfl rfl) (vE 3 rfl rfl)) xa_nil))))))))))
 (xs_ret xe_bl)
 (xs_ret (xe_not (xe_any rfl (by rfl) Tx.n_any (xo_ci cv_F_L (xf_lm (own := [("some", 6)]) rfl sc_judge_waste.nd (xic_range1 (by rfl) Tx.n_range (xe_min2 rfl (by rfl) Tx.n_min (xa_cons (vE 3 rfl rfl) (xa_cons (xe_ix (xo_ci cv_E_L (vE 0 rfl rfl)) xe_int) xa_nil)))) (blkOk_by (N := ["lengths", "bar", "paper", "waste", "numbers", "table", "some"]) (sc := defScope s_judge_waste) (by decide +kernel)) (fun s H C cl fp => (xg_name (i := 6) sc_judge_waste.nd rfl (by first | exact .inl rfl | exact .inr rfl))) (fun s H C cl fp x2 => (xo_call (d_told_by Tx) (hr.mono (by decide)) (by rfl) (xa_cons (vE 5 rfl rfl) (xa_cons (xe_sub (vE 1 rfl rfl) (vE 6 rfl rfl)) xa_nil)))))))))))))⟩
def m_judge_waste (x : ((List Int) × Int × (Option (Int × (List Int) × (List (Option (Int × (List Int) × Unit))) × Unit)) × Unit)) : R Bool := unF (p_judge_waste x).1
theorem d_judge_waste [HasT] {P : Program} {w : World} {K : PySem.W.Frag} {mg : Str → Option Value} {base : Heap} (Tx : Txt K mg base) : Def P w K mg base CX0 6 "judge_waste" (aCons (tList tInt) (aCons tInt (aCons (tOdd 3 (aCons tInt (aCons (tList tInt) (aCons (tList (tOpt (tT (aCons tInt (aCons (tList tInt) aNil))))) aNil)))) aNil))) (kE tBool) m_judge_waste := by
  obtain ⟨f, fd, hm, F, hb⟩ := Tx.f_judge_waste
  exact ⟨f, fd, ["lengths", "bar", "paper"], hm, F.kp, hb, fn_ok F sc_judge_waste (ae_cons (ae_cons (ae_cons ae_nil))) rfl (fun _ => rfl) (fun cdv A outer s H E hr x => (p_judge_waste x).2 Tx f cdv A outer s H E hr)⟩
set_option maxHeartbeats 4000000 in
def p__law_cell (x : ((List Int) × Int × Unit)) : {m : R (Fl Empty Empty Int) // ∀ [HasT] {P : Program} {w : World} {K : PySem.W.Frag} {mg : Str → Option Value} {base : Heap} (Tx : Txt K mg base) (f : Addr) (cdv : Value) (A : Around) (outer : List PySem.Env) (s : Shared) (H : Hp) (E : XK) (hr : Room 1 (A.deeper (PyProof.Rows.envOfC "_law_cell" (defScope s__law_cell) s.heap.objs.size f cdv))) ,
   XS (cxOf CX0 P w K mg base ["script", "k"] "_law_cell" (defScope s__law_cell) f cdv A outer s H E).nox ([some (.sh (tSeq tInt) x.1), some (.sh tInt x.2.1)] ++ List.replicate 0 none) (defBody s__law_cell) eNo eNo (kE tInt) m} :=
  ⟨_, fun Tx f cdv A outer s H E hr =>
 (xs_ifR (xt_lt (vE 1 rfl rfl) (xe_lenS (by rfl) Tx.n_len (vE 0 rfl rfl)))
 (xs_ret (xe_int1 (by rfl) Tx.n_int (xe_ixS (vE 0 rfl rfl) (vE 1 rfl rfl))))
 (xs_ret xe_int))⟩
def m__law_cell (x : ((List Int) × Int × Unit)) : R Int := unF (p__law_cell x).1
theorem d__law_cell [HasT] {P : Program} {w : World} {K : PySem.W.Frag} {mg : Str → Option Value} {base : Heap} (Tx : Txt K mg base) : Def P w K mg base CX0 2 "_law_cell" (aCons (tSeq tInt) (aCons tInt aNil)) (kE tInt) m__law_cell := by
  obtain ⟨f, fd, hm, F, hb⟩ := Tx.f__law_cell
  exact ⟨f, fd, ["script", "k"], hm, F.kp, hb, fn_ok F sc__law_cell (ae_cons (ae_cons ae_nil)) rfl (fun _ => rfl) (fun cdv A outer s H E hr x => (p__law_cell x).2 Tx f cdv A outer s H E hr)⟩
set_option maxHeartbeats 4000000 in
def p__law_numbers (x : (Int × Int × Int × Unit)) : {m : R (Fl Empty Empty (List Int)) // ∀ [HasT] {P : Program} {w : World} {K : PySem.W.Frag} {mg : Str → Option Value} {base : Heap} (Tx : Txt K mg base) (f : Addr) (cdv : Value) (A : Around) (outer : List PySem.Env) (s : Shared) (H : Hp) (E : XK) (hr : Room 1 (A.deeper (PyProof.Rows.envOfC "_law_numbers" (defScope s__law_numbers) s.heap.objs.size f cdv))) ,
   XS (cxOf CX0 P w K mg base ["cell", "count", "limit", "found", "k", "mixed"] "_law_numbers" (defScope s__law_numbers) f cdv A outer s H E).nox ([some (.sh tInt x.1), some (.sh tInt x.2.1), some (.sh tInt x.2.2.1)] ++ List.replicate 3 none) (defBody s__law_numbers) eNo eNo (kF tInt) m} :=
  ⟨_, fun Tx f cdv A outer s H E hr =>
 (xs_setF (i := 3) sc__law_numbers.nd rfl (by first | exact .inl rfl | exact .inr rfl) (xf_lst (t := tInt) xl_nil) (fun v1 =>
 (xs_ifR (xt_ge (vE 0 rfl rfl) (xe_pow xe_int xe_int))
 (xs_for (s0 := (x.1, v1, ())) (fun (s : Int × (List Int) × Unit) => ([(some (.sh tInt s.1)), (some (.sh tInt x.2.1)), (some (.sh tInt x.2.2.1)), (some (.ol tInt s.2.1)), none, none] : Tr.Env)) PassesOwn.never rfl (xi_range1 (by rfl) Tx.n_range (vE 1 rfl rfl)) (xg_name (i := 4) sc__law_numbers.nd rfl (by first | exact .inl rfl | exact .inr rfl)) (.keep (.keep (.keep (.keep (.drop (.drop .nil)))))) (fun s3 x2 =>
 (xs_append 3 rfl rfl (by first | exact Or.inl rfl | exact Or.inr (Or.inl rfl) | exact Or.inr (Or.inr rfl)) (xe_mod (xe_int1 (by rfl) Tx.n_int (vE 0 rfl rfl)) (vE 2 rfl rfl)) (fun v4 =>
 (xs_set (i := 0) sc__law_numbers.nd rfl (by first | exact .inl rfl | exact .inr rfl) (xe_fdiv (xe_int1 (by rfl) Tx.n_int (vE 0 rfl rfl)) (vE 2 rfl rfl)) (fun v5 =>
 (xs_nil (s := (v5, v4, ())) (.keep (.keep (.keep (.keep (.drop (.drop .nil)))))))))))) (fun s6 =>
 (xs_retO 3 rfl rfl)))
 (xs_for (s0 := (v1, ())) (fun (s : (List Int) × Unit) => ([(some (.sh tInt x.1)), (some (.sh tInt x.2.1)), (some (.sh tInt x.2.2.1)), (some (.ol tInt s.1)), none, none] : Tr.Env)) PassesOwn.never rfl (xi_range1 (by rfl) Tx.n_range (vE 1 rfl rfl)) (xg_name (i := 4) sc__law_numbers.nd rfl (by first | exact .inl rfl | exact .inr rfl)) (.keep (.keep (.keep (.keep (.drop (.drop .nil)))))) (fun s8 x7 =>
 (xs_set (i := 5) sc__law_numbers.nd rfl (by first | exact .inl rfl | exact .inr rfl) (xe_mod (xe_int1 (by rfl) Tx.n_int (xe_add (xe_add (xe_mul (vE 0 rfl rfl) xe_int) (xe_mul (vE 4 rfl rfl) xe_int)) xe_int)) xe_int) (fun v9 =>
 (xs_set (i := 5) sc__law_numbers.nd rfl (by first | exact .inl rfl | exact .inr rfl) (xe_mod (xe_int1 (by rfl) Tx.n_int (xe_add (xe_add (xe_add (xe_mul (vE 5 rfl rfl) (vE 5 rfl rfl)) (xe_mul (vE 5 rfl rfl) xe_int)) (xe_mul (vE 4 rfl rfl) xe_int)) xe_int)) xe_int) (fun v10 =>
 (xs_append 3 rfl rfl (by first | exact Or.inl rfl | exact Or.inr (Or.inl rfl) | exact Or.inr (Or.inr rfl)) (xe_mod (xe_int1 (by rfl) Tx.n_int (xe_fdiv (vE 5 rfl rfl) xe_int)) (vE 2 rfl rfl)) (fun v11 =>
 (xs_nil (s := (v11, ())) (.keep (.keep (.keep (.keep (.drop (.drop .nil)))))))))))))) (fun s12 =>
 (xs_retO 3 rfl rfl))))))⟩
def m__law_numbers (x : (Int × Int × Int × Unit)) : R (List Int) := unF (p__law_numbers x).1
theorem d__law_numbers [HasT] {P : Program} {w : World} {K : PySem.W.Frag} {mg : Str → Option Value} {base : Heap} (Tx : Txt K mg base) : Def P w K mg base CX0 2 "_law_numbers" (aCons tInt (aCons tInt (aCons tInt aNil))) (kF tInt) m__law_numbers := by
  obtain ⟨f, fd, hm, F, hb⟩ := Tx.f__law_numbers
  exact ⟨f, fd, ["cell", "count", "limit"], hm, F.kp, hb, fn_ok F sc__law_numbers (ae_cons (ae_cons (ae_cons ae_nil))) rfl (fun _ => rfl) (fun cdv A outer s H E hr x => (p__law_numbers x).2 Tx f cdv A outer s H E hr)⟩
set_option maxHeartbeats 4000000 in
def p__law_same_int (x : (Int × Int × Unit)) : {m : R (Fl Empty Empty Bool) // ∀ [HasT] {P : Program} {w : World} {K : PySem.W.Frag} {mg : Str → Option Value} {base : Heap} (Tx : Txt K mg base) (f : Addr) (cdv : Value) (A : Around) (outer : List PySem.Env) (s : Shared) (H : Hp) (E : XK) (hr : Room 1 (A.deeper (PyProof.Rows.envOfC "_law_same" (defScope s__law_same) s.heap.objs.size f cdv))) ,
   XS (cxOf CX0 P w K mg base ["told", "due", "k"] "_law_same" (defScope s__law_same) f cdv A outer s H E).nox ([some (.sh tInt x.1), some (.sh tInt x.2.1)] ++ List.replicate 1 none) (defBody s__law_same) eNo eNo (kE tBool) m} :=
  ⟨_, fun Tx f cdv A outer s H E hr =>
 (xs_ifF (eJ := eNo) (k := fun s => s.elim) (xt_val (xe_isi (n := "int") (T := "list") false (by decide +kernel) (by rfl) Tx.n_isinstance (by rfl) Tx.n_list boot_listT (vE 1 rfl rfl)))
 (xs_ifF (eJ := eNo) (k := fun s => s.elim) (xt_val (xe_isi (n := "int") (T := "tuple") false (by decide +kernel) (by rfl) Tx.n_isinstance (by rfl) Tx.n_tuple boot_tupleT (vE 1 rfl rfl)))
 (xs_ifF (eJ := eNo) (k := fun s => s.elim) (xt_isNn (vE 1 rfl rfl))
 (xs_ifF (eJ := eNo) (k := fun s => s.elim) (xt_val (xe_isi (n := "int") (T := "bool") false (by decide +kernel) (by rfl) Tx.n_isinstance (by rfl) Tx.n_bool boot_boolT (vE 1 rfl rfl)))
 (xs_ifT (eJ := eNo) (k := fun s => s.elim) (xt_val (xe_isi (n := "int") (T := "int") true (by decide +kernel) (by rfl) Tx.n_isinstance (by rfl) Tx.n_int boot_int (vE 1 rfl rfl)))
 (xs_ret (xe_and (xe_isi (n := "int") (T := "int") true (by decide +kernel) (by rfl) Tx.n_isinstance (by rfl) Tx.n_int boot_int (vE 0 rfl rfl)) (xe_and (xe_not (xe_isi (n := "int") (T := "bool") false (by decide +kernel) (by rfl) Tx.n_isinstance (by rfl) Tx.n_bool boot_boolT (vE 0 rfl rfl))) (xe_one (xe_eq (vE 0 rfl rfl) (vE 1 rfl rfl)))))) (fun s => s.elim)) (fun s => s.elim)) (fun s => s.elim)) (fun s => s.elim)) (fun s => s.elim))⟩
def m__law_same_int (x : (Int × Int × Unit)) : R Bool := unF (p__law_same_int x).1
theorem d__law_same_int [HasT] {P : Program} {w : World} {K : PySem.W.Frag} {mg : Str → Option Value} {base : Heap} (Tx : Txt K mg base) : Def P w K mg base CX0 2 "_law_same" (aCons tInt (aCons tInt aNil)) (kE tBool) m__law_same_int := by
  obtain ⟨f, fd, hm, F, hb⟩ := Tx.f__law_same
  exact ⟨f, fd, ["told", "due"], hm, F.kp, hb, fn_ok F sc__law_same (ae_cons (ae_cons ae_nil)) rfl (fun _ => rfl) (fun cdv A outer s H E hr x => (p__law_same_int x).2 Tx f cdv A outer s H E hr)⟩
set_option maxHeartbeats 4000000 in
def p__law_same_bool (x : (Bool × Bool × Unit)) : {m : R (Fl Empty Empty Bool) // ∀ [HasT] {P : Program} {w : World} {K : PySem.W.Frag} {mg : Str → Option Value} {base : Heap} (Tx : Txt K mg base) (f : Addr) (cdv : Value) (A : Around) (outer : List PySem.Env) (s : Shared) (H : Hp) (E : XK) (hr : Room 1 (A.deeper (PyProof.Rows.envOfC "_law_same" (defScope s__law_same) s.heap.objs.size f cdv))) ,
   XS (cxOf CX0 P w K mg base ["told", "due", "k"] "_law_same" (defScope s__law_same) f cdv A outer s H E).nox ([some (.sh tBool x.1), some (.sh tBool x.2.1)] ++ List.replicate 1 none) (defBody s__law_same) eNo eNo (kE tBool) m} :=
  ⟨_, fun Tx f cdv A outer s H E hr =>
 (xs_ifF (eJ := eNo) (k := fun s => s.elim) (xt_val (xe_isi (n := "bool") (T := "list") false (by decide +kernel) (by rfl) Tx.n_isinstance (by rfl) Tx.n_list boot_listT (vE 1 rfl rfl)))
 (xs_ifF (eJ := eNo) (k := fun s => s.elim) (xt_val (xe_isi (n := "bool") (T := "tuple") false (by decide +kernel) (by rfl) Tx.n_isinstance (by rfl) Tx.n_tuple boot_tupleT (vE 1 rfl rfl)))
 (xs_ifF (eJ := eNo) (k := fun s => s.elim) (xt_isNn (vE 1 rfl rfl))
 (xs_ifT (eJ := eNo) (k := fun s => s.elim) (xt_val (xe_isi (n := "bool") (T := "bool") true (by decide +kernel) (by rfl) Tx.n_isinstance (by rfl) Tx.n_bool boot_boolT (vE 1 rfl rfl)))
 (xs_ret (xe_and (xe_isi (n := "bool") (T := "bool") true (by decide +kernel) (by rfl) Tx.n_isinstance (by rfl) Tx.n_bool boot_boolT (vE 0 rfl rfl)) (xe_one (xe_eq (vE 0 rfl rfl) (vE 1 rfl rfl))))) (fun s => s.elim)) (fun s => s.elim)) (fun s => s.elim)) (fun s => s.elim))⟩
def m__law_same_bool (x : (Bool × Bool × Unit)) : R Bool := unF (p__law_same_bool x).1
theorem d__law_same_bool [HasT] {P : Program} {w : World} {K : PySem.W.Frag} {mg : Str → Option Value} {base : Heap} (Tx : Txt K mg base) : Def P w K mg base CX0 2 "_law_same" (aCons tBool (aCons tBool aNil)) (kE tBool) m__law_same_bool := by
  obtain ⟨f, fd, hm, F, hb⟩ := Tx.f__law_same
  exact ⟨f, fd, ["told", "due"], hm, F.kp, hb, fn_ok F sc__law_same (ae_cons (ae_cons ae_nil)) rfl (fun _ => rfl) (fun cdv A outer s H E hr x => (p__law_same_bool x).2 Tx f cdv A outer s H E hr)⟩
set_option maxHeartbeats 4000000 in
def p__law_lengths (x : ((List Int) × Int × Unit)) : {m : R (Fl Empty Empty (List Int)) // ∀ [HasT] {P : Program} {w : World} {K : PySem.W.Frag} {mg : Str → Option Value} {base : Heap} (Tx : Txt K mg base) (f : Addr) (cdv : Value) (A : Around) (outer : List PySem.Env) (s : Shared) (H : Hp) (E : XK) (hr : Room 2 (A.deeper (PyProof.Rows.envOfC "_law_lengths" (defScope s__law_lengths) s.heap.objs.size f cdv))) ,
   XS (cxOf CX0 P w K mg base ["script", "at", "draws", "most", "found", "k", "length"] "_law_lengths" (defScope s__law_lengths) f cdv A outer s H E).nox ([some (.sh (tSeq tInt) x.1), some (.sh tInt x.2.1)] ++ List.replicate 5 none) (defBody s__law_lengths) eNo eNo (kF tInt) m} :=
  ⟨_, fun Tx f cdv A outer s H E hr =>
 (xs_set (i := 2) sc__law_lengths.nd rfl (by first | exact .inl rfl | exact .inr rfl) (xe_F (xo_call (d__law_numbers Tx) (hr.mono (by decide)) (by rfl) (xa_cons (xo_call (d__law_cell Tx) (hr.mono (by decide)) (by rfl) (xa_cons (vE 0 rfl rfl) (xa_cons (vE 1 rfl rfl) xa_nil))) (xa_cons xe_int (xa_cons xe_int xa_nil))))) (fun v1 =>
 (xs_set (i := 3) sc__law_lengths.nd rfl (by first | exact .inl rfl | exact .inr rfl) (xe_ix (xo_ci cv_F_L (xf_lst (t := tInt) (xl_cons xe_int (xl_cons xe_int (xl_cons xe_int xl_nil))))) (xe_mod (xe_ix (xo_ci cv_N_L (vE 2 rfl rfl)) xe_int) xe_int)) (fun v2 =>
 (xs_setF (i := 4) sc__law_lengths.nd rfl (by first | exact .inl rfl | exact .inr rfl) (xf_lst (t := tInt) xl_nil) (fun v3 =>
 (xs_for (s0 := (v3, ())) (fun (s : (List Int) × Unit) => ([(some (.sh (tSeq tInt) x.1)), (some (.sh tInt x.2.1)), (some (.sh (tListN tInt) v1)), (some (.sh tInt v2)), (some (.ol tInt s.1)), none, none] : Tr.Env)) PassesOwn.never rfl (xi_range1 (by rfl) Tx.n_range (xe_add xe_int (xe_mod (xe_ix (xo_ci cv_N_L (vE 2 rfl rfl)) xe_int) xe_int))) (xg_name (i := 5) sc__law_lengths.nd rfl (by first | exact .inl rfl | exact .inr rfl)) (.keep (.keep (.keep (.keep (.keep (.drop (.drop .nil))))))) (fun s5 x4 =>
 (xs_set (i := 6) sc__law_lengths.nd rfl (by first | exact .inl rfl | exact .inr rfl) (xe_add xe_int (xe_mod (xe_ix (xo_ci cv_N_L (vE 2 rfl rfl)) (xe_add xe_int (vE 5 rfl rfl))) (vE 3 rfl rfl))) (fun v6 =>
 (xs_if (fun (s : Int × Unit) => ([(some (.sh (tSeq tInt) x.1)), (some (.sh tInt x.2.1)), (some (.sh (tListN tInt) v1)), (some (.sh tInt v2)), (some (.ol tInt s5.1)), (some (.sh tInt x4)), (some (.sh tInt s.1))] : Tr.Env)) rfl (xt_eq (xe_mod (xe_ix (xo_ci cv_N_L (vE 2 rfl rfl)) xe_int) xe_int) xe_int)
 (xs_set (i := 6) sc__law_lengths.nd rfl (by first | exact .inl rfl | exact .inr rfl) (xe_min2 rfl (by rfl) Tx.n_min (xa_cons xe_int (xa_cons (xe_mul xe_int (vE 6 rfl rfl)) xa_nil))) (fun v7 =>
 (xs_nil (s := (v7, ())) (.keep (.keep (.keep (.keep (.keep (.keep (.keep .nil))))))))))
 (xs_nil (s := (v6, ())) (.keep (.keep (.keep (.keep (.keep (.keep (.keep .nil)))))))) (fun s8 =>
 (xs_ifE (xt_nin (vE 6 rfl rfl) (vL 4 rfl rfl))
 (xs_append 4 rfl rfl (by first | exact Or.inl rfl | exact Or.inr (Or.inl rfl) | exact Or.inr (Or.inr rfl)) (vE 6 rfl rfl) (fun v9 =>
 (xs_nil (s := (v9, ())) (.keep (.keep (.keep (.keep (.keep (.drop (.drop .nil))))))))))
 (xs_nil (s := (s5.1, ())) (.keep (.keep (.keep (.keep (.keep (.drop (.drop .nil)))))))))))))) (fun s10 =>
 (xs_ret (xf_sorted (by rfl) Tx.n_sorted (vL 4 rfl rfl)))))))))))⟩
def m__law_lengths (x : ((List Int) × Int × Unit)) : R (List Int) := unF (p__law_lengths x).1
theorem d__law_lengths [HasT] {P : Program} {w : World} {K : PySem.W.Frag} {mg : Str → Option Value} {base : Heap} (Tx : Txt K mg base) : Def P w K mg base CX0 3 "_law_lengths" (aCons (tSeq tInt) (aCons tInt aNil)) (kF tInt) m__law_lengths := by
  obtain ⟨f, fd, hm, F, hb⟩ := Tx.f__law_lengths
  exact ⟨f, fd, ["script", "at"], hm, F.kp, hb, fn_ok F sc__law_lengths (ae_cons (ae_cons ae_nil)) rfl (fun _ => rfl) (fun cdv A outer s H E hr x => (p__law_lengths x).2 Tx f cdv A outer s H E hr)⟩
set_option maxHeartbeats 4000000 in
def p__law_labels (x : ((List Int) × Unit)) : {m : R (Fl Empty Empty (List (Option Int))) // ∀ [HasT] {P : Program} {w : World} {K : PySem.W.Frag} {mg : Str → Option Value} {base : Heap} (Tx : Txt K mg base) (f : Addr) (cdv : Value) (A : Around) (outer : List PySem.Env) (s : Shared) (H : Hp) (E : XK) (hr : Room 1 (A.deeper (PyProof.Rows.envOfC "_law_labels" (defScope s__law_labels) s.heap.objs.size f cdv))) ,
   XS (cxOf CX0 P w K mg base ["lengths", "least", "size", "can", "length", "found", "remainder", "told", "some"] "_law_labels" (defScope s__law_labels) f cdv A outer s H E).nox ([some (.sh (tList tInt) x.1)] ++ List.replicate 8 none) (defBody s__law_labels) eNo eNo (kF (tOpt tInt)) m} :=
  ⟨_, fun Tx f cdv A outer s H E hr =>
 (xs_set (i := 1) sc__law_labels.nd rfl (by first | exact .inl rfl | exact .inr rfl) (xe_ix (xo_ci cv_E_L (vE 0 rfl rfl)) xe_int) (fun v1 =>
 (xs_set (i := 2) sc__law_labels.nd rfl (by first | exact .inl rfl | exact .inr rfl) (xe_add (xe_mul (vE 1 rfl rfl) (xe_ix (xo_ci cv_E_L (vE 0 rfl rfl)) (xe_sub (xe_len (by rfl) Tx.n_len (xo_ci cv_E_L (vE 0 rfl rfl))) xe_int))) xe_int) (fun v2 =>
 (xs_setF (i := 3) sc__law_labels.nd rfl (by first | exact .inl rfl | exact .inr rfl) (xf_cat (xo_ci cv_F_L (xf_lst (t := tBool) (xl_cons xe_bl xl_nil))) (xo_ci cv_F_L (xf_rep (xo_ci cv_F_L (xf_lst (t := tBool) (xl_cons xe_bl xl_nil))) (vE 2 rfl rfl)))) (fun v3 =>
 (xs_for (s0 := (v3, ())) (fun (s : (List Bool) × Unit) => ([(some (.sh (tList tInt) x.1)), (some (.sh tInt v1)), (some (.sh tInt v2)), (some (.ol tBool s.1)), none, none, none, none, none] : Tr.Env)) PassesOwn.never rfl (xi_range2 (by rfl) Tx.n_range xe_int (xe_add (vE 2 rfl rfl) xe_int)) (xg_name (i := 4) sc__law_labels.nd rfl (by first | exact .inl rfl | exact .inr rfl)) (.keep (.keep (.keep (.keep (.drop (.drop (.drop (.drop (.drop .nil))))))))) (fun s5 x4 =>
 (xs_setitem 3 rfl rfl (by first | exact Or.inl rfl | exact Or.inr (Or.inl rfl) | exact Or.inr (Or.inr rfl)) (vE 4 rfl rfl) (xe_gt (xe_len (by rfl) Tx.n_len (xo_ci cv_F_L (xf_lc (own := [("some", 8)]) rfl sc__law_labels.nd (xic_list (xo_ci cv_E_L (vE 0 rfl rfl))) (blkOk_by (N := ["lengths", "least", "size", "can", "length", "found", "remainder", "told", "some"]) (sc := defScope s__law_labels) (by decide +kernel)) (fun s H C cl fp => (xg_name (i := 8) sc__law_labels.nd rfl (by first | exact .inl rfl | exact .inr rfl))) (fun s H C cl fp x7 => xts_one (xw_pt (xw_and (xt_le (vE 8 rfl rfl) (vE 4 rfl rfl)) (xw_and1 (xt_val (xe_ix (vL 3 rfl rfl) (xe_sub (vE 4 rfl rfl) (vE 8 rfl rfl)))))))) (fun s H C cl fp x7 => (vE 8 rfl rfl))))) xe_int) (fun v6 =>
 (xs_nil (s := (v6, ())) (.keep (.keep (.keep (.keep (.drop (.drop (.drop (.drop (.drop .nil))))))))))))) (fun s8 =>
 (xs_setF (i := 5) sc__law_labels.nd rfl (by first | exact .inl rfl | exact .inr rfl) (xf_lst (t := (tOpt tInt)) xl_nil) (fun v9 =>
 (xs_for (s0 := (v9, ())) (fun (s : (List (Option Int)) × Unit) => ([(some (.sh (tList tInt) x.1)), (some (.sh tInt v1)), (some (.sh tInt v2)), (some (.ol tBool s8.1)), none, (some (.ol (tOpt tInt) s.1)), none, none, none] : Tr.Env)) PassesOwn.never rfl (xi_range1 (by rfl) Tx.n_range (vE 1 rfl rfl)) (xg_name (i := 6) sc__law_labels.nd rfl (by first | exact .inl rfl | exact .inr rfl)) (.keep (.keep (.keep (.keep (.drop (.keep (.drop (.drop (.drop .nil))))))))) (fun s11 x10 =>
 (xs_setLc (i := 7) (own := [("length", 4)]) rfl sc__law_labels.nd rfl rfl rfl (xic_range3 (by rfl) Tx.n_range (vE 6 rfl rfl) (xe_add (vE 2 rfl rfl) xe_int) (vE 1 rfl rfl)) (blkOk_by (N := ["lengths", "least", "size", "can", "length", "found", "remainder", "told", "some"]) (sc := defScope s__law_labels) (by decide +kernel)) (fun s H C cl fp => (xg_name (i := 4) sc__law_labels.nd rfl (by first | exact .inl rfl | exact .inr rfl))) (fun s H C cl fp x13 => xts_one (xt_val (xe_ix (vL 3 rfl rfl) (vE 4 rfl rfl)))) (fun s H C cl fp x13 => (vE 4 rfl rfl)) (fun v12 =>
 (xs_freeze 7 rfl
 (xs_append 5 rfl rfl (by first | exact Or.inl rfl | exact Or.inr (Or.inl rfl) | exact Or.inr (Or.inr rfl)) (xe_ix (xo_ci cv_F_L (xf_cat (xo_cv (cv_LT cvt_some) (xo_ci cv_N_L (vE 7 rfl rfl))) (xo_ci cv_F_L (xf_lst (t := (tOpt tInt)) (xl_cons (xe_noneO (t := tInt)) xl_nil))))) xe_int) (fun v14 =>
 (xs_nil (s := (v14, ())) (.keep (.keep (.keep (.keep (.drop (.keep (.drop (.drop (.drop .nil)))))))))))))))) (fun s15 =>
 (xs_retO 5 rfl rfl)))))))))))))⟩
def m__law_labels (x : ((List Int) × Unit)) : R (List (Option Int)) := unF (p__law_labels x).1
theorem d__law_labels [HasT] {P : Program} {w : World} {K : PySem.W.Frag} {mg : Str → Option Value} {base : Heap} (Tx : Txt K mg base) : Def P w K mg base CX0 2 "_law_labels" (aCons (tList tInt) aNil) (kF (tOpt tInt)) m__law_labels := by
  obtain ⟨f, fd, hm, F, hb⟩ := Tx.f__law_labels
  exact ⟨f, fd, ["lengths"], hm, F.kp, hb, fn_ok F sc__law_labels (ae_cons ae_nil) rfl (fun _ => rfl) (fun cdv A outer s H E hr x => (p__law_labels x).2 Tx f cdv A outer s H E hr)⟩
set_option maxHeartbeats 4000000 in
def p__law_sum_of (x : ((List Int) × (List Int) × Unit)) : {m : R (Fl Empty Empty Int) // ∀ [HasT] {P : Program} {w : World} {K : PySem.W.Frag} {mg : Str → Option Value} {base : Heap} (Tx : Txt K mg base) (f : Addr) (cdv : Value) (A : Around) (outer : List PySem.Env) (s : Shared) (H : Hp) (E : XK) (hr : Room 1 (A.deeper (PyProof.Rows.envOfC "_law_sum_of" (defScope s__law_sum_of) s.heap.objs.size f cdv))) ,
   XS (cxOf CX0 P w K mg base ["lengths", "numbers", "k"] "_law_sum_of" (defScope s__law_sum_of) f cdv A outer s H E).nox ([some (.sh (tList tInt) x.1), some (.sh (tList tInt) x.2.1)] ++ List.replicate 1 none) (defBody s__law_sum_of) eNo eNo (kE tInt) m} :=
  ⟨_, fun Tx f cdv A outer s H E hr =>
 (xs_ret (xe_sum rfl (by rfl) Tx.n_sum (xo_ci cv_F_L (xf_lm (own := [("k", 2)]) rfl sc__law_sum_of.nd (xic_range1 (by rfl) Tx.n_range (xe_len (by rfl) Tx.n_len (xo_ci cv_E_L (vE 0 rfl rfl)))) (blkOk_by (N := ["lengths", "numbers", "k"]) (sc := defScope s__law_sum_of) (by decide +kernel)) (fun s H C cl fp => (xg_name (i := 2) sc__law_sum_of.nd rfl (by first | exact .inl rfl | exact .inr rfl))) (fun s H C cl fp x1 => (xe_mul (xe_ix (xo_ci cv_E_L (vE 0 rfl rfl)) (vE 2 rfl rfl)) (xe_ix (xo_ci cv_E_L (vE 1 rfl rfl)) (vE 2 rfl rfl))))))))⟩
def m__law_sum_of (x : ((List Int) × (List Int) × Unit)) : R Int := unF (p__law_sum_of x).1
theorem d__law_sum_of [HasT] {P : Program} {w : World} {K : PySem.W.Frag} {mg : Str → Option Value} {base : Heap} (Tx : Txt K mg base) : Def P w K mg base CX0 2 "_law_sum_of" (aCons (tList tInt) (aCons (tList tInt) aNil)) (kE tInt) m__law_sum_of := by
  obtain ⟨f, fd, hm, F, hb⟩ := Tx.f__law_sum_of
  exact ⟨f, fd, ["lengths", "numbers"], hm, F.kp, hb, fn_ok F sc__law_sum_of (ae_cons (ae_cons ae_nil)) rfl (fun _ => rfl) (fun cdv A outer s H E hr x => (p__law_sum_of x).2 Tx f cdv A outer s H E hr)⟩
set_option maxHeartbeats 4000000 in
def p__law_are_numbers (x : ((List Int) × (List Int) × Int × Unit)) : {m : R (Fl Empty Empty Bool) // ∀ [HasT] {P : Program} {w : World} {K : PySem.W.Frag} {mg : Str → Option Value} {base : Heap} (Tx : Txt K mg base) (f : Addr) (cdv : Value) (A : Around) (outer : List PySem.Env) (s : Shared) (H : Hp) (E : XK) (hr : Room 2 (A.deeper (PyProof.Rows.envOfC "_law_are_numbers" (defScope s__law_are_numbers) s.heap.objs.size f cdv))) ,
   XS (cxOf CX0 P w K mg base ["lengths", "numbers", "goal", "number"] "_law_are_numbers" (defScope s__law_are_numbers) f cdv A outer s H E).nox ([some (.sh (tList tInt) x.1), some (.sh (tList tInt) x.2.1), some (.sh tInt x.2.2.1)] ++ List.replicate 1 none) (defBody s__law_are_numbers) eNo eNo (kE tBool) m} :=
  ⟨_, fun Tx f cdv A outer s H E hr =>
 (xs_ifR (xw_pt (xw_or (xt_ne (xe_len (by rfl) Tx.n_len (xo_ci cv_E_L (vE 1 rfl rfl))) (xe_len (by rfl) Tx.n_len (xo_ci cv_E_L (vE 0 rfl rfl)))) (xw_or1 (xt_gt (xe_len (by rfl) Tx.n_len (xo_ci cv_F_L (xf_lc (own := [("number", 3)]) rfl sc__law_are_numbers.nd (xic_list (xo_ci cv_E_L (vE 1 rfl rfl))) (blkOk_by (N := ["lengths", "numbers", "goal", "number"]) (sc := defScope s__law_are_numbers) (by decide +kernel)) (fun s H C cl fp => (xg_name (i := 3) sc__law_are_numbers.nd rfl (by first | exact .inl rfl | exact .inr rfl))) (fun s H C cl fp x1 => xts_one (xt_lt (vE 3 rfl rfl) xe_int)) (fun s H C cl fp x1 => (vE 3 rfl rfl))))) xe_int))))
 (xs_ret xe_bl)
 (xs_ret (xe_eq (xo_call (d__law_sum_of Tx) (hr.mono (by decide)) (by rfl) (xa_cons (vE 0 rfl rfl) (xa_cons (vE 1 rfl rfl) xa_nil))) (vE 2 rfl rfl))))⟩
def m__law_are_numbers (x : ((List Int) × (List Int) × Int × Unit)) : R Bool := unF (p__law_are_numbers x).1
theorem d__law_are_numbers [HasT] {P : Program} {w : World} {K : PySem.W.Frag} {mg : Str → Option Value} {base : Heap} (Tx : Txt K mg base) : Def P w K mg base CX0 3 "_law_are_numbers" (aCons (tList tInt) (aCons (tList tInt) (aCons tInt aNil))) (kE tBool) m__law_are_numbers := by
  obtain ⟨f, fd, hm, F, hb⟩ := Tx.f__law_are_numbers
  exact ⟨f, fd, ["lengths", "numbers", "goal"], hm, F.kp, hb, fn_ok F sc__law_are_numbers (ae_cons (ae_cons (ae_cons ae_nil))) rfl (fun _ => rfl) (fun cdv A outer s H E hr x => (p__law_are_numbers x).2 Tx f cdv A outer s H E hr)⟩
set_option maxHeartbeats 4000000 in
def p__law_accepts_table (x : ((List Int) × (List (Option (Int × (List Int) × Unit))) × Unit)) : {m : R (Fl Empty Empty Bool) // ∀ [HasT] {P : Program} {w : World} {K : PySem.W.Frag} {mg : Str → Option Value} {base : Heap} (Tx : Txt K mg base) (f : Addr) (cdv : Value) (A : Around) (outer : List PySem.Env) (s : Shared) (H : Hp) (E : XK) (hr : Room 3 (A.deeper (PyProof.Rows.envOfC "_law_accepts_table" (defScope s__law_accepts_table) s.heap.objs.size f cdv))) ,
   XS (cxOf CX0 P w K mg base ["lengths", "table", "least", "remainder", "length", "label", "numbers", "after"] "_law_accepts_table" (defScope s__law_accepts_table) f cdv A outer s H E).nox ([some (.sh (tList tInt) x.1), some (.sh (tList (tOpt (tT (aCons tInt (aCons (tList tInt) aNil))))) x.2.1)] ++ List.replicate 6 none) (defBody s__law_accepts_table) eNo eNo (kE tBool) m} :=
  ⟨_, fun Tx f cdv A outer s H E hr =>
 (xs_set (i := 2) sc__law_accepts_table.nd rfl (by first | exact .inl rfl | exact .inr rfl) (xe_ix (xo_ci cv_E_L (vE 0 rfl rfl)) xe_int) (fun v1 =>
 (xs_ifR (xw_pt (xw_or (xt_ne (xe_len (by rfl) Tx.n_len (xo_ci cv_E_L (vE 1 rfl rfl))) (vE 2 rfl rfl)) (xw_or (xt_isN (xe_ix (xo_ci cv_E_L (vE 1 rfl rfl)) xe_int)) (xw_or1 (xt_ne (xe_nth (k := 0) (xo_cp cp_get (xe_ix (xo_ci cv_E_L (vE 1 rfl rfl)) xe_int)) nth0) xe_int)))))
 (xs_ret xe_bl)
 (xs_for (s0 := (())) (fun (s : Unit) => ([(some (.sh (tList tInt) x.1)), (some (.sh (tList (tOpt (tT (aCons tInt (aCons (tList tInt) aNil))))) x.2.1)), (some (.sh tInt v1)), none, none, none, none, none] : Tr.Env)) PassesOwn.never rfl (xi_range1 (by rfl) Tx.n_range (vE 2 rfl rfl)) (xg_name (i := 3) sc__law_accepts_table.nd rfl (by first | exact .inl rfl | exact .inr rfl)) (.keep (.keep (.keep (.drop (.drop (.drop (.drop (.drop .nil)))))))) (fun s3 x2 =>
 (xs_ifE (xt_notN (xe_ix (xo_ci cv_E_L (vE 1 rfl rfl)) (vE 3 rfl rfl)))
 (xs_unpack (xo_cp cp_get (xe_ix (xo_ci cv_E_L (vE 1 rfl rfl)) (vE 3 rfl rfl))) (xg_tup rfl (xgs_cons (xg_name (i := 5) sc__law_accepts_table.nd rfl (by first | exact .inl rfl | exact .inr rfl)) (xgs_cons (xg_name (i := 6) sc__law_accepts_table.nd rfl (by first | exact .inl rfl | exact .inr rfl)) xgs_nil)) (len_cons (len_cons len_nil))) (fun v4 =>
 (xs_ifR (xw_pt (xw_or (xt_not (xt_val (xo_call (d__law_are_numbers Tx) (hr.mono (by decide)) (by rfl) (xa_cons (vE 0 rfl rfl) (xa_cons (vE 6 rfl rfl) (xa_cons (vE 5 rfl rfl) xa_nil)))))) (xw_or1 (xt_ne (xe_mod (xe_int1 (by rfl) Tx.n_int (vE 5 rfl rfl)) (vE 2 rfl rfl)) (vE 3 rfl rfl)))))
 (xs_ret xe_bl)
 (xs_for (s0 := (())) (fun (s : Unit) => ([(some (.sh (tList tInt) x.1)), (some (.sh (tList (tOpt (tT (aCons tInt (aCons (tList tInt) aNil))))) x.2.1)), (some (.sh tInt v1)), (some (.sh tInt x2)), none, (some (.sh tInt v4.1)), (some (.sh (tList tInt) v4.2.1)), none] : Tr.Env)) PassesOwn.never rfl (xi_list (vE 0 rfl rfl)) (xg_name (i := 4) sc__law_accepts_table.nd rfl (by first | exact .inl rfl | exact .inr rfl)) (.keep (.keep (.keep (.keep (.drop (.keep (.keep (.drop .nil)))))))) (fun s6 x5 =>
 (xs_set (i := 7) sc__law_accepts_table.nd rfl (by first | exact .inl rfl | exact .inr rfl) (xe_ix (xo_ci cv_E_L (vE 1 rfl rfl)) (xe_mod (xe_int1 (by rfl) Tx.n_int (xe_add (vE 5 rfl rfl) (vE 4 rfl rfl))) (vE 2 rfl rfl))) (fun v7 =>
 (xs_ifR (xw_pt (xw_or (xt_isN (vE 7 rfl rfl)) (xw_or1 (xt_gt (xe_nth (k := 0) (xo_cp cp_get (vE 7 rfl rfl)) nth0) (xe_add (vE 5 rfl rfl) (vE 4 rfl rfl))))))
 (xs_ret xe_bl)
 (xs_nil (s := (())) (.keep (.keep (.keep (.keep (.drop (.keep (.keep (.drop .nil))))))))))))) (fun s8 =>
 (xs_nil (s := (())) (.keep (.keep (.keep (.drop (.drop (.drop (.drop (.drop .nil))))))))))))))
 (xs_nil (s := (())) (.keep (.keep (.keep (.drop (.drop (.drop (.drop (.drop .nil))))))))))) (fun s9 =>
 (xs_ret xe_bl))))))⟩
def m__law_accepts_table (x : ((List Int) × (List (Option (Int × (List Int) × Unit))) × Unit)) : R Bool := unF (p__law_accepts_table x).1
theorem d__law_accepts_table [HasT] {P : Program} {w : World} {K : PySem.W.Frag} {mg : Str → Option Value} {base : Heap} (Tx : Txt K mg base) : Def P w K mg base CX0 4 "_law_accepts_table" (aCons (tList tInt) (aCons (tList (tOpt (tT (aCons tInt (aCons (tList tInt) aNil))))) aNil)) (kE tBool) m__law_accepts_table := by
  obtain ⟨f, fd, hm, F, hb⟩ := Tx.f__law_accepts_table
  exact ⟨f, fd, ["lengths", "table"], hm, F.kp, hb, fn_ok F sc__law_accepts_table (ae_cons (ae_cons ae_nil)) rfl (fun _ => rfl) (fun cdv A outer s H E hr x => (p__law_accepts_table x).2 Tx f cdv A outer s H E hr)⟩
set_option maxHeartbeats 4000000 in
def p__law_told_cut (x : ((List (Option (Int × (List Int) × Unit))) × Int × Unit)) : {m : R (Fl Empty Empty Bool) // ∀ [HasT] {P : Program} {w : World} {K : PySem.W.Frag} {mg : Str → Option Value} {base : Heap} (Tx : Txt K mg base) (f : Addr) (cdv : Value) (A : Around) (outer : List PySem.Env) (s : Shared) (H : Hp) (E : XK) (hr : Room 1 (A.deeper (PyProof.Rows.envOfC "_law_told_cut" (defScope s__law_told_cut) s.heap.objs.size f cdv))) ,
   XS (cxOf CX0 P w K mg base ["table", "length", "item"] "_law_told_cut" (defScope s__law_told_cut) f cdv A outer s H E).nox ([some (.sh (tList (tOpt (tT (aCons tInt (aCons (tList tInt) aNil))))) x.1), some (.sh tInt x.2.1)] ++ List.replicate 1 none) (defBody s__law_told_cut) eNo eNo (kE tBool) m} :=
  ⟨_, fun Tx f cdv A outer s H E hr =>
 (xs_set (i := 2) sc__law_told_cut.nd rfl (by first | exact .inl rfl | exact .inr rfl) (xe_ix (xo_ci cv_E_L (vE 0 rfl rfl)) (xe_mod (xe_int1 (by rfl) Tx.n_int (vE 1 rfl rfl)) (xe_len (by rfl) Tx.n_len (xo_ci cv_E_L (vE 0 rfl rfl))))) (fun v1 =>
 (xs_ret (xe_and (xe_notN (vE 2 rfl rfl)) (xe_one (xe_le (xe_nth (k := 0) (xo_cp cp_get (vE 2 rfl rfl)) nth0) (vE 1 rfl rfl)))))))⟩
def m__law_told_cut (x : ((List (Option (Int × (List Int) × Unit))) × Int × Unit)) : R Bool := unF (p__law_told_cut x).1
theorem d__law_told_cut [HasT] {P : Program} {w : World} {K : PySem.W.Frag} {mg : Str → Option Value} {base : Heap} (Tx : Txt K mg base) : Def P w K mg base CX0 2 "_law_told_cut" (aCons (tList (tOpt (tT (aCons tInt (aCons (tList tInt) aNil))))) (aCons tInt aNil)) (kE tBool) m__law_told_cut := by
  obtain ⟨f, fd, hm, F, hb⟩ := Tx.f__law_told_cut
  exact ⟨f, fd, ["table", "length"], hm, F.kp, hb, fn_ok F sc__law_told_cut (ae_cons (ae_cons ae_nil)) rfl (fun _ => rfl) (fun cdv A outer s H E hr x => (p__law_told_cut x).2 Tx f cdv A outer s H E hr)⟩
end K73
end
section
set_option maxRecDepth 100000
set_option maxHeartbeats 4000000
namespace K73
open PySem L2 Tr

set_option maxHeartbeats 4000000 in
def p__law_bent_tables (x : ((List Int) × (List (Option (Int × (List Int) × Unit))) × (List Int) × Unit)) : {m : R (Fl Empty Empty (List (List (Option (Int × (List Int) × Unit))))) // ∀ [HasT] {P : Program} {w : World} {K : PySem.W.Frag} {mg : Str → Option Value} {base : Heap} (Tx : Txt K mg base) (f : Addr) (cdv : Value) (A : Around) (outer : List PySem.Env) (s : Shared) (H : Hp) (E : XK) (hr : Room 1 (A.deeper (PyProof.Rows.envOfC "_law_bent_tables" (defScope s__law_bent_tables) s.heap.objs.size f cdv))) ,
   XS (cxOf CX0 P w K mg base ["lengths", "table", "draws", "least", "found", "some", "at", "kind", "more", "turned", "items", "item", "label", "numbers", "k"] "_law_bent_tables" (defScope s__law_bent_tables) f cdv A outer s H E).nox ([some (.sh (tList tInt) x.1), some (.sh (tList (tOpt (tT (aCons tInt (aCons (tList tInt) aNil))))) x.2.1), some (.sh (tList tInt) x.2.2.1)] ++ List.replicate 12 none) (defBody s__law_bent_tables) eNo eNo (kF (tList (tOpt (tT (aCons tInt (aCons (tList tInt) aNil)))))) m} :=
  ⟨_, fun Tx f cdv A outer s H E hr =>
 (xs_set (i := 3) sc__law_bent_tables.nd rfl (by first | exact .inl rfl | exact .inr rfl) (xe_ix (xo_ci cv_E_L (vE 0 rfl rfl)) xe_int) (fun v1 =>
 (xs_setF (i := 4) sc__law_bent_tables.nd rfl (by first | exact .inl rfl | exact .inr rfl) (xf_lst (t := (tList (tOpt (tT (aCons tInt (aCons (tList tInt) aNil)))))) (xl_cons (vE 1 rfl rfl) (xl_cons (xo_ci (cv_E (sub_N Sub.rfl)) (xe_F (xf_slice (xo_ci cv_E_L (vE 1 rfl rfl)) (xp_some xe_int) xp_none))) (xl_cons (xo_ci (cv_E (sub_N Sub.rfl)) (xe_F (xf_cat (xo_ci cv_E_L (vE 1 rfl rfl)) (xo_ci cv_F_L (xf_lst (t := (tOpt (tT (aCons tInt (aCons (tList tInt) aNil))))) (xl_cons (xe_noneO (t := (tT (aCons tInt (aCons (tList tInt) aNil))))) xl_nil)))))) (xl_cons (xo_ci (cv_E (sub_N Sub.rfl)) (xe_F (xf_rev (xo_ci cv_E_L (vE 1 rfl rfl))))) (xl_cons (xo_ci (cv_E (sub_N Sub.rfl)) (xe_F (xf_cat (xo_ci cv_F_L (xf_lst (t := (tOpt (tT (aCons tInt (aCons (tList tInt) aNil))))) (xl_cons (xe_noneO (t := (tT (aCons tInt (aCons (tList tInt) aNil))))) xl_nil))) (xo_ci cv_F_L (xf_slice (xo_ci cv_E_L (vE 1 rfl rfl)) (xp_some xe_int) xp_none))))) (xl_cons (xo_ci (cv_E (sub_N Sub.rfl)) (xe_F (xf_rep (xo_ci cv_F_L (xf_lst (t := (tOpt (tT (aCons tInt (aCons (tList tInt) aNil))))) (xl_cons (xe_noneO (t := (tT (aCons tInt (aCons (tList tInt) aNil))))) xl_nil))) (vE 3 rfl rfl)))) xl_nil))))))) (fun v2 =>
 (xs_setLc (i := 5) (own := [("k", 14)]) rfl sc__law_bent_tables.nd rfl rfl rfl (xic_range1 (by rfl) Tx.n_range (vE 3 rfl rfl)) (blkOk_by (N := ["lengths", "table", "draws", "least", "found", "some", "at", "kind", "more", "turned", "items", "item", "label", "numbers", "k"]) (sc := defScope s__law_bent_tables) (by decide +kernel)) (fun s H C cl fp => (xg_name (i := 14) sc__law_bent_tables.nd rfl (by first | exact .inl rfl | exact .inr rfl))) (fun s H C cl fp x4 => xts_one (xt_notN (xe_ix (xo_ci cv_E_L (vE 1 rfl rfl)) (vE 14 rfl rfl)))) (fun s H C cl fp x4 => (vE 14 rfl rfl)) (fun v3 =>
 (xs_freeze 5 rfl
 (xs_set (i := 6) sc__law_bent_tables.nd rfl (by first | exact .inl rfl | exact .inr rfl) (xe_ix (xo_ci cv_N_L (vE 5 rfl rfl)) (xe_mod (xe_ix (xo_ci cv_E_L (vE 2 rfl rfl)) xe_int) (xe_len (by rfl) Tx.n_len (xo_ci cv_N_L (vE 5 rfl rfl))))) (fun v5 =>
 (xs_set (i := 7) sc__law_bent_tables.nd rfl (by first | exact .inl rfl | exact .inr rfl) (xe_mod (xe_ix (xo_ci cv_E_L (vE 2 rfl rfl)) xe_int) (xe_len (by rfl) Tx.n_len (xo_ci cv_E_L (vE 0 rfl rfl)))) (fun v6 =>
 (xs_unpack (xo_cp cp_get (xe_ix (xo_ci cv_E_L (vE 1 rfl rfl)) (vE 6 rfl rfl))) (xg_tup rfl (xgs_cons (xg_name (i := 12) sc__law_bent_tables.nd rfl (by first | exact .inl rfl | exact .inr rfl)) (xgs_cons (xg_name (i := 13) sc__law_bent_tables.nd rfl (by first | exact .inl rfl | exact .inr rfl)) xgs_nil)) (len_cons (len_cons len_nil))) (fun v7 =>
 (xs_setLm (i := 8) (own := [("k", 14)]) rfl sc__law_bent_tables.nd rfl rfl rfl (xic_range1 (by rfl) Tx.n_range (xe_len (by rfl) Tx.n_len (xo_ci cv_E_L (vE 13 rfl rfl)))) (blkOk_by (N := ["lengths", "table", "draws", "least", "found", "some", "at", "kind", "more", "turned", "items", "item", "label", "numbers", "k"]) (sc := defScope s__law_bent_tables) (by decide +kernel)) (fun s H C cl fp => (xg_name (i := 14) sc__law_bent_tables.nd rfl (by first | exact .inl rfl | exact .inr rfl))) (fun s H C cl fp x9 => (xe_add (xe_ix (xo_ci cv_E_L (vE 13 rfl rfl)) (vE 14 rfl rfl)) (xe_intB (by rfl) Tx.n_int (xe_eq (vE 14 rfl rfl) (vE 7 rfl rfl))))) (fun v8 =>
 (xs_freeze 8 rfl
 (xs_set (i := 9) sc__law_bent_tables.nd rfl (by first | exact .inl rfl | exact .inr rfl) (xe_F (xf_cat (xo_ci cv_F_L (xf_cat (xo_ci cv_F_L (xf_cat (xo_ci cv_F_L (xf_lst (t := tInt) (xl_cons (xe_add (xe_ix (xo_ci cv_E_L (vE 13 rfl rfl)) xe_int) (xe_ix (xo_ci cv_E_L (vE 0 rfl rfl)) (vE 7 rfl rfl))) xl_nil))) (xo_ci cv_F_L (xf_slice (xo_ci cv_E_L (vE 13 rfl rfl)) (xp_some xe_int) (xp_some (vE 7 rfl rfl)))))) (xo_ci cv_F_L (xf_lst (t := tInt) (xl_cons (xe_sub (xe_ix (xo_ci cv_E_L (vE 13 rfl rfl)) (vE 7 rfl rfl)) (vE 3 rfl rfl)) xl_nil))))) (xo_ci cv_F_L (xf_slice (xo_ci cv_E_L (vE 13 rfl rfl)) (xp_some (xe_add (vE 7 rfl rfl) xe_int)) xp_none)))) (fun v10 =>
 (xs_setF (i := 10) sc__law_bent_tables.nd rfl (by first | exact .inl rfl | exact .inr rfl) (xf_lst (t := (tOpt (tT (aCons tInt (aCons (tList tInt) aNil))))) (xl_cons (xe_noneO (t := (tT (aCons tInt (aCons (tList tInt) aNil))))) (xl_cons (xo_cv (cv_T cvt_some) (xe_tup (xa_cons (xe_add (vE 12 rfl rfl) (vE 3 rfl rfl)) (xa_cons (xo_ci (cv_E (sub_N Sub.rfl)) (xe_F (xf_cat (xo_ci cv_F_L (xf_lst (t := tInt) (xl_cons (xe_add (xe_ix (xo_ci cv_E_L (vE 13 rfl rfl)) xe_int) xe_int) xl_nil))) (xo_ci cv_F_L (xf_slice (xo_ci cv_E_L (vE 13 rfl rfl)) (xp_some xe_int) xp_none))))) xa_nil)) (hz_of (len_cons (len_cons len_nil)) (by decide)))) (xl_cons (xo_cv (cv_T cvt_some) (xe_tup (xa_cons (xe_sub (vE 12 rfl rfl) (vE 3 rfl rfl)) (xa_cons (xo_ci (cv_E (sub_N Sub.rfl)) (xe_F (xf_cat (xo_ci cv_F_L (xf_lst (t := tInt) (xl_cons (xe_sub (xe_ix (xo_ci cv_E_L (vE 13 rfl rfl)) xe_int) xe_int) xl_nil))) (xo_ci cv_F_L (xf_slice (xo_ci cv_E_L (vE 13 rfl rfl)) (xp_some xe_int) xp_none))))) xa_nil)) (hz_of (len_cons (len_cons len_nil)) (by decide)))) (xl_cons (xo_cv (cv_T cvt_some) (xe_tup (xa_cons (vE 12 rfl rfl) (xa_cons (xo_ci (cv_E (sub_N Sub.rfl)) (vE 8 rfl rfl)) xa_nil)) (hz_of (len_cons (len_cons len_nil)) (by decide)))) (xl_cons (xo_cv (cv_T cvt_some) (xe_tup (xa_cons (xe_add (vE 12 rfl rfl) xe_int) (xa_cons (vE 13 rfl rfl) xa_nil)) (hz_of (len_cons (len_cons len_nil)) (by decide)))) (xl_cons (xo_cv (cv_T cvt_some) (xe_tup (xa_cons (xe_add (vE 12 rfl rfl) (xe_ix (xo_ci cv_E_L (vE 0 rfl rfl)) (vE 7 rfl rfl))) (xa_cons (xo_ci (cv_E (sub_N Sub.rfl)) (vE 8 rfl rfl)) xa_nil)) (hz_of (len_cons (len_cons len_nil)) (by decide)))) xl_nil))))))) (fun v11 =>
 (xs_setF (i := 10) sc__law_bent_tables.nd rfl (by first | exact .inl rfl | exact .inr rfl) (xf_cat (vL 10 rfl rfl) (xo_ci cv_F_L (xf_lst (t := (tOpt (tT (aCons tInt (aCons (tList tInt) aNil))))) (xl_cons (xo_cv (cv_T cvt_some) (xe_tup (xa_cons (vE 12 rfl rfl) (xa_cons (xo_ci (cv_E (sub_N Sub.rfl)) (xe_F (xf_slice (xo_ci cv_E_L (vE 13 rfl rfl)) (xp_some xe_int) xp_none))) xa_nil)) (hz_of (len_cons (len_cons len_nil)) (by decide)))) (xl_cons (xo_cv (cv_T cvt_some) (xe_tup (xa_cons (vE 12 rfl rfl) (xa_cons (xo_ci (cv_E (sub_N Sub.rfl)) (xe_F (xf_cat (xo_ci cv_E_L (vE 13 rfl rfl)) (xo_ci cv_F_L (xf_lst (t := tInt) (xl_cons xe_int xl_nil)))))) xa_nil)) (hz_of (len_cons (len_cons len_nil)) (by decide)))) (xl_cons (xo_cv (cv_T cvt_some) (xe_tup (xa_cons (vE 12 rfl rfl) (xa_cons (xo_ci (cv_E (sub_N Sub.rfl)) (xe_F (xf_rep (xo_ci cv_F_L (xf_lst (t := tInt) (xl_cons xe_int xl_nil))) (xe_len (by rfl) Tx.n_len (xo_ci cv_E_L (vE 13 rfl rfl)))))) xa_nil)) (hz_of (len_cons (len_cons len_nil)) (by decide)))) xl_nil)))))) (fun v12 =>
 (xs_if (fun (s : (List (Option (Int × (List Int) × Unit))) × Unit) => ([(some (.sh (tList tInt) x.1)), (some (.sh (tList (tOpt (tT (aCons tInt (aCons (tList tInt) aNil))))) x.2.1)), (some (.sh (tList tInt) x.2.2.1)), (some (.sh tInt v1)), (some (.ol (tList (tOpt (tT (aCons tInt (aCons (tList tInt) aNil))))) v2)), (some (.sh (tListN tInt) v3)), (some (.sh tInt v5)), (some (.sh tInt v6)), (some (.sh (tListN tInt) v8)), (some (.sh (tListN tInt) v10)), (some (.ol (tOpt (tT (aCons tInt (aCons (tList tInt) aNil)))) s.1)), none, (some (.sh tInt v7.1)), (some (.sh (tList tInt) v7.2.1)), none] : Tr.Env)) rfl (xt_gt (vE 7 rfl rfl) xe_int)
 (xs_append 10 rfl rfl (by first | exact Or.inl rfl | exact Or.inr (Or.inl rfl) | exact Or.inr (Or.inr rfl)) (xo_cv (cv_T cvt_some) (xe_tup (xa_cons (vE 12 rfl rfl) (xa_cons (xo_ci (cv_E (sub_N Sub.rfl)) (vE 9 rfl rfl)) xa_nil)) (hz_of (len_cons (len_cons len_nil)) (by decide)))) (fun v13 =>
 (xs_nil (s := (v13, ())) (.keep (.keep (.keep (.keep (.keep (.keep (.keep (.keep (.keep (.keep (.keep (.drop (.keep (.keep (.drop .nil))))))))))))))))))
 (xs_nil (s := (v12, ())) (.keep (.keep (.keep (.keep (.keep (.keep (.keep (.keep (.keep (.keep (.keep (.drop (.keep (.keep (.drop .nil)))))))))))))))) (fun s14 =>
 (xs_freeze 10 rfl
 (xs_for (s0 := (v2, ())) (fun (s : (List (List (Option (Int × (List Int) × Unit)))) × Unit) => ([(some (.sh (tList tInt) x.1)), (some (.sh (tList (tOpt (tT (aCons tInt (aCons (tList tInt) aNil))))) x.2.1)), (some (.sh (tList tInt) x.2.2.1)), (some (.sh tInt v1)), (some (.ol (tList (tOpt (tT (aCons tInt (aCons (tList tInt) aNil))))) s.1)), (some (.sh (tListN tInt) v3)), (some (.sh tInt v5)), (some (.sh tInt v6)), (some (.sh (tListN tInt) v8)), (some (.sh (tListN tInt) v10)), (some (.sh (tListN (tOpt (tT (aCons tInt (aCons (tList tInt) aNil))))) s14.1)), none, (some (.sh tInt v7.1)), (some (.sh (tList tInt) v7.2.1)), none] : Tr.Env)) PassesOwn.never rfl (xi_listN (vE 10 rfl rfl)) (xg_name (i := 11) sc__law_bent_tables.nd rfl (by first | exact .inl rfl | exact .inr rfl)) (.keep (.keep (.keep (.keep (.keep (.keep (.keep (.keep (.keep (.keep (.keep (.drop (.keep (.keep (.drop .nil))))))))))))))) (fun s16 x15 =>
 (xs_append 4 rfl rfl (by first | exact Or.inl rfl | exact Or.inr (Or.inl rfl) | exact Or.inr (Or.inr rfl)) (xo_ci (cv_E (sub_N Sub.rfl)) (xe_F (xf_cat (xo_ci cv_F_L (xf_cat (xo_ci cv_F_L (xf_slice (xo_ci cv_E_L (vE 1 rfl rfl)) (xp_some xe_int) (xp_some (vE 6 rfl rfl)))) (xo_ci cv_F_L (xf_lst (t := (tOpt (tT (aCons tInt (aCons (tList tInt) aNil))))) (xl_cons (vE 11 rfl rfl) xl_nil))))) (xo_ci cv_F_L (xf_slice (xo_ci cv_E_L (vE 1 rfl rfl)) (xp_some (xe_add (vE 6 rfl rfl) xe_int)) xp_none))))) (fun v17 =>
 (xs_nil (s := (v17, ())) (.keep (.keep (.keep (.keep (.keep (.keep (.keep (.keep (.keep (.keep (.keep (.drop (.keep (.keep (.drop .nil))))))))))))))))))) (fun s18 =>
 (xs_retO 4 rfl rfl))))))))))))))))))))))))))))⟩
def m__law_bent_tables (x : ((List Int) × (List (Option (Int × (List Int) × Unit))) × (List Int) × Unit)) : R (List (List (Option (Int × (List Int) × Unit)))) := unF (p__law_bent_tables x).1
theorem d__law_bent_tables [HasT] {P : Program} {w : World} {K : PySem.W.Frag} {mg : Str → Option Value} {base : Heap} (Tx : Txt K mg base) : Def P w K mg base CX0 2 "_law_bent_tables" (aCons (tList tInt) (aCons (tList (tOpt (tT (aCons tInt (aCons (tList tInt) aNil))))) (aCons (tList tInt) aNil))) (kF (tList (tOpt (tT (aCons tInt (aCons (tList tInt) aNil)))))) m__law_bent_tables := by
  obtain ⟨f, fd, hm, F, hb⟩ := Tx.f__law_bent_tables
  exact ⟨f, fd, ["lengths", "table", "draws"], hm, F.kp, hb, fn_ok F sc__law_bent_tables (ae_cons (ae_cons (ae_cons ae_nil))) rfl (fun _ => rfl) (fun cdv A outer s H E hr x => (p__law_bent_tables x).2 Tx f cdv A outer s H E hr)⟩
set_option maxHeartbeats 4000000 in
def p__law_accepts (x : ((List Int) × Int × (Option (Int × (List Int) × (List (Option (Int × (List Int) × Unit))) × Unit)) × Unit)) : {m : R (Fl Empty Empty Bool) // ∀ [HasT] {P : Program} {w : World} {K : PySem.W.Frag} {mg : Str → Option Value} {base : Heap} (Tx : Txt K mg base) (f : Addr) (cdv : Value) (A : Around) (outer : List PySem.Env) (s : Shared) (H : Hp) (E : XK) (hr : Room 4 (A.deeper (PyProof.Rows.envOfC "_law_accepts" (defScope s__law_accepts) s.heap.objs.size f cdv))) ,
   XS (cxOf CX0 P w K mg base ["lengths", "bar", "paper", "some", "waste", "numbers", "table"] "_law_accepts" (defScope s__law_accepts) f cdv A outer s H E).nox ([some (.sh (tList tInt) x.1), some (.sh tInt x.2.1), some (.sh (tOdd 3 (aCons tInt (aCons (tList tInt) (aCons (tList (tOpt (tT (aCons tInt (aCons (tList tInt) aNil))))) aNil)))) x.2.2.1)] ++ List.replicate 4 none) (defBody s__law_accepts) eNo eNo (kE tBool) m} :=
  ⟨_, fun Tx f cdv A outer s H E hr =>
 (xs_ifR (xt_lenOdd (n := 3) (len_cons (len_cons (len_cons len_nil))) (by rfl) Tx.n_len (vE 2 rfl rfl))
 (xs_ret xe_bl)
 (xs_unpack (xo_cp cp_odd (vE 2 rfl rfl)) (xg_tup rfl (xgs_cons (xg_name (i := 4) sc__law_accepts.nd rfl (by first | exact .inl rfl | exact .inr rfl)) (xgs_cons (xg_name (i := 5) sc__law_accepts.nd rfl (by first | exact .inl rfl | exact .inr rfl)) (xgs_cons (xg_name (i := 6) sc__law_accepts.nd rfl (by first | exact .inl rfl | exact .inr rfl)) xgs_nil))) (len_cons (len_cons (len_cons len_nil)))) (fun v1 =>
 (xs_ifR (xw_pt (xw_or (xt_not (xt_val (xo_call (d__law_accepts_table Tx) (hr.mono (by decide)) (by rfl) (xa_cons (vE 0 rfl rfl) (xa_cons (vE 6 rfl rfl) xa_nil))))) (xw_or (xt_lt (vE 4 rfl rfl) xe_int) (xw_or1 (xt_not (xt_val (xo_call (d__law_are_numbers Tx) (hr.mono (by decide)) (by rfl) (xa_cons (vE 0 rfl rfl) (xa_cons (vE 5 rfl rfl) (xa_cons (xe_sub (vE 1 rfl rfl) (vE 4 rfl rfl)) xa_nil))))))))))
 (xs_ret xe_bl)
 (xs_for (s0 := (())) (fun (s : Unit) => ([(some (.sh (tList tInt) x.1)), (some (.sh tInt x.2.1)), (some (.sh (tOdd 3 (aCons tInt (aCons (tList tInt) (aCons (tList (tOpt (tT (aCons tInt (aCons (tList tInt) aNil))))) aNil)))) x.2.2.1)), none, (some (.sh tInt v1.1)), (some (.sh (tList tInt) v1.2.1)), (some (.sh (tList (tOpt (tT (aCons tInt (aCons (tList tInt) aNil))))) v1.2.2.1))] : Tr.Env)) PassesOwn.never rfl (xi_range1 (by rfl) Tx.n_range (xe_min2 rfl (by rfl) Tx.n_min (xa_cons (vE 4 rfl rfl) (xa_cons (xe_ix (xo_ci cv_E_L (vE 0 rfl rfl)) xe_int) xa_nil)))) (xg_name (i := 3) sc__law_accepts.nd rfl (by first | exact .inl rfl | exact .inr rfl)) (.keep (.keep (.keep (.drop (.keep (.keep (.keep .nil))))))) (fun s3 x2 =>
 (xs_ifR (xt_val (xo_call (d__law_told_cut Tx) (hr.mono (by decide)) (by rfl) (xa_cons (vE 6 rfl rfl) (xa_cons (xe_sub (vE 1 rfl rfl) (vE 3 rfl rfl)) xa_nil))))
 (xs_ret xe_bl)
 (xs_nil (s := (())) (.keep (.keep (.keep (.drop (.keep (.keep (.keep .nil)))))))))) (fun s4 =>
 (xs_ret xe_bl)))))))⟩
def m__law_accepts (x : ((List Int) × Int × (Option (Int × (List Int) × (List (Option (Int × (List Int) × Unit))) × Unit)) × Unit)) : R Bool := unF (p__law_accepts x).1
theorem d__law_accepts [HasT] {P : Program} {w : World} {K : PySem.W.Frag} {mg : Str → Option Value} {base : Heap} (Tx : Txt K mg base) : Def P w K mg base CX0 5 "_law_accepts" (aCons (tList tInt) (aCons tInt (aCons (tOdd 3 (aCons tInt (aCons (tList tInt) (aCons (tList (tOpt (tT (aCons tInt (aCons (tList tInt) aNil))))) aNil)))) aNil))) (kE tBool) m__law_accepts := by
  obtain ⟨f, fd, hm, F, hb⟩ := Tx.f__law_accepts
  exact ⟨f, fd, ["lengths", "bar", "paper"], hm, F.kp, hb, fn_ok F sc__law_accepts (ae_cons (ae_cons (ae_cons ae_nil))) rfl (fun _ => rfl) (fun cdv A outer s H E hr x => (p__law_accepts x).2 Tx f cdv A outer s H E hr)⟩
set_option maxHeartbeats 4000000 in
def p__law_papers (x : ((List Int) × (Int × (List Int) × (List (Option (Int × (List Int) × Unit))) × Unit) × (List Int) × Unit)) : {m : R (Fl Empty Empty (List (Option (Int × (List Int) × (List (Option (Int × (List Int) × Unit))) × Unit)))) // ∀ [HasT] {P : Program} {w : World} {K : PySem.W.Frag} {mg : Str → Option Value} {base : Heap} (Tx : Txt K mg base) (f : Addr) (cdv : Value) (A : Around) (outer : List PySem.Env) (s : Shared) (H : Hp) (E : XK) (hr : Room 2 (A.deeper (PyProof.Rows.envOfC "_law_papers" (defScope s__law_papers) s.heap.objs.size f cdv))) ,
   XS (cxOf CX0 P w K mg base ["lengths", "paper", "draws", "least", "kind", "fewer", "more", "found", "other", "waste", "numbers", "table", "k"] "_law_papers" (defScope s__law_papers) f cdv A outer s H E).nox ([some (.sh (tList tInt) x.1), some (.sh (tT (aCons tInt (aCons (tList tInt) (aCons (tList (tOpt (tT (aCons tInt (aCons (tList tInt) aNil))))) aNil)))) x.2.1), some (.sh (tList tInt) x.2.2.1)] ++ List.replicate 10 none) (defBody s__law_papers) eNo eNo (kF (tOdd 3 (aCons tInt (aCons (tList tInt) (aCons (tList (tOpt (tT (aCons tInt (aCons (tList tInt) aNil))))) aNil))))) m} :=
  ⟨_, fun Tx f cdv A outer s H E hr =>
 (xs_unpack (vE 1 rfl rfl) (xg_tup rfl (xgs_cons (xg_name (i := 9) sc__law_papers.nd rfl (by first | exact .inl rfl | exact .inr rfl)) (xgs_cons (xg_name (i := 10) sc__law_papers.nd rfl (by first | exact .inl rfl | exact .inr rfl)) (xgs_cons (xg_name (i := 11) sc__law_papers.nd rfl (by first | exact .inl rfl | exact .inr rfl)) xgs_nil))) (len_cons (len_cons (len_cons len_nil)))) (fun v1 =>
 (xs_set (i := 3) sc__law_papers.nd rfl (by first | exact .inl rfl | exact .inr rfl) (xe_ix (xo_ci cv_E_L (vE 0 rfl rfl)) xe_int) (fun v2 =>
 (xs_set (i := 4) sc__law_papers.nd rfl (by first | exact .inl rfl | exact .inr rfl) (xe_mod (xe_ix (xo_ci cv_E_L (vE 2 rfl rfl)) xe_int) (xe_len (by rfl) Tx.n_len (xo_ci cv_E_L (vE 0 rfl rfl)))) (fun v3 =>
 (xs_setLm (i := 5) (own := [("k", 12)]) rfl sc__law_papers.nd rfl rfl rfl (xic_range1 (by rfl) Tx.n_range (xe_len (by rfl) Tx.n_len (xo_ci cv_E_L (vE 10 rfl rfl)))) (blkOk_by (N := ["lengths", "paper", "draws", "least", "kind", "fewer", "more", "found", "other", "waste", "numbers", "table", "k"]) (sc := defScope s__law_papers) (by decide +kernel)) (fun s H C cl fp => (xg_name (i := 12) sc__law_papers.nd rfl (by first | exact .inl rfl | exact .inr rfl))) (fun s H C cl fp x5 => (xe_sub (xe_ix (xo_ci cv_E_L (vE 10 rfl rfl)) (vE 12 rfl rfl)) (xe_intB (by rfl) Tx.n_int (xe_eq (vE 12 rfl rfl) (vE 4 rfl rfl))))) (fun v4 =>
 (xs_freeze 5 rfl
 (xs_setLm (i := 6) (own := [("k", 12)]) rfl sc__law_papers.nd rfl rfl rfl (xic_range1 (by rfl) Tx.n_range (xe_len (by rfl) Tx.n_len (xo_ci cv_E_L (vE 10 rfl rfl)))) (blkOk_by (N := ["lengths", "paper", "draws", "least", "kind", "fewer", "more", "found", "other", "waste", "numbers", "table", "k"]) (sc := defScope s__law_papers) (by decide +kernel)) (fun s H C cl fp => (xg_name (i := 12) sc__law_papers.nd rfl (by first | exact .inl rfl | exact .inr rfl))) (fun s H C cl fp x7 => (xe_add (xe_ix (xo_ci cv_E_L (vE 10 rfl rfl)) (vE 12 rfl rfl)) (xe_intB (by rfl) Tx.n_int (xe_eq (vE 12 rfl rfl) (vE 4 rfl rfl))))) (fun v6 =>
 (xs_freeze 6 rfl
 (xs_setF (i := 7) sc__law_papers.nd rfl (by first | exact .inl rfl | exact .inr rfl) (xf_lst (t := (tOdd 3 (aCons tInt (aCons (tList tInt) (aCons (tList (tOpt (tT (aCons tInt (aCons (tList tInt) aNil))))) aNil))))) (xl_cons (xo_cv (cv_T (cvt_odd (suba_cons Sub.rfl (suba_cons Sub.rfl (suba_cons Sub.rfl suba_nil))))) (vE 1 rfl rfl)) (xl_cons (xe_cutOdd (n := 3) (len_cons (len_cons (len_cons len_nil))) (by decide) (by decide) (by decide) (by decide) (vE 1 rfl rfl)) (xl_cons (xe_catOdd (len_cons (len_cons (len_cons len_nil))) (len_cons len_nil) (by decide) (by decide) (by decide) (by decide) (vE 1 rfl rfl) (xe_tup (xa_cons xe_int xa_nil) (hz_of (len_cons len_nil) (by decide)))) (xl_cons (xo_cv (cv_T (cvt_odd (suba_cons Sub.rfl (suba_cons Sub.rfl (suba_cons Sub.rfl suba_nil))))) (xe_tup (xa_cons (xe_add (vE 9 rfl rfl) (vE 3 rfl rfl)) (xa_cons (xo_ci (cv_E (sub_N Sub.rfl)) (xe_F (xf_cat (xo_ci cv_F_L (xf_lst (t := tInt) (xl_cons (xe_sub (xe_ix (xo_ci cv_E_L (vE 10 rfl rfl)) xe_int) xe_int) xl_nil))) (xo_ci cv_F_L (xf_slice (xo_ci cv_E_L (vE 10 rfl rfl)) (xp_some xe_int) xp_none))))) (xa_cons (vE 11 rfl rfl) xa_nil))) (hz_of (len_cons (len_cons (len_cons len_nil))) (by decide)))) (xl_cons (xo_cv (cv_T (cvt_odd (suba_cons Sub.rfl (suba_cons Sub.rfl (suba_cons Sub.rfl suba_nil))))) (xe_tup (xa_cons (xe_sub (vE 9 rfl rfl) (vE 3 rfl rfl)) (xa_cons (xo_ci (cv_E (sub_N Sub.rfl)) (xe_F (xf_cat (xo_ci cv_F_L (xf_lst (t := tInt) (xl_cons (xe_add (xe_ix (xo_ci cv_E_L (vE 10 rfl rfl)) xe_int) xe_int) xl_nil))) (xo_ci cv_F_L (xf_slice (xo_ci cv_E_L (vE 10 rfl rfl)) (xp_some xe_int) xp_none))))) (xa_cons (vE 11 rfl rfl) xa_nil))) (hz_of (len_cons (len_cons (len_cons len_nil))) (by decide)))) xl_nil)))))) (fun v8 =>
 (xs_setF (i := 7) sc__law_papers.nd rfl (by first | exact .inl rfl | exact .inr rfl) (xf_cat (vL 7 rfl rfl) (xo_ci cv_F_L (xf_lst (t := (tOdd 3 (aCons tInt (aCons (tList tInt) (aCons (tList (tOpt (tT (aCons tInt (aCons (tList tInt) aNil))))) aNil))))) (xl_cons (xo_cv (cv_T (cvt_odd (suba_cons Sub.rfl (suba_cons Sub.rfl (suba_cons Sub.rfl suba_nil))))) (xe_tup (xa_cons (xe_add (vE 9 rfl rfl) (xe_ix (xo_ci cv_E_L (vE 0 rfl rfl)) (vE 4 rfl rfl))) (xa_cons (xo_ci (cv_E (sub_N Sub.rfl)) (vE 5 rfl rfl)) (xa_cons (vE 11 rfl rfl) xa_nil))) (hz_of (len_cons (len_cons (len_cons len_nil))) (by decide)))) (xl_cons (xo_cv (cv_T (cvt_odd (suba_cons Sub.rfl (suba_cons Sub.rfl (suba_cons Sub.rfl suba_nil))))) (xe_tup (xa_cons (xe_sub (vE 9 rfl rfl) (xe_ix (xo_ci cv_E_L (vE 0 rfl rfl)) (vE 4 rfl rfl))) (xa_cons (xo_ci (cv_E (sub_N Sub.rfl)) (vE 6 rfl rfl)) (xa_cons (vE 11 rfl rfl) xa_nil))) (hz_of (len_cons (len_cons (len_cons len_nil))) (by decide)))) (xl_cons (xo_cv (cv_T (cvt_odd (suba_cons Sub.rfl (suba_cons Sub.rfl (suba_cons Sub.rfl suba_nil))))) (xe_tup (xa_cons (vE 9 rfl rfl) (xa_cons (xo_ci (cv_E (sub_N Sub.rfl)) (vE 6 rfl rfl)) (xa_cons (vE 11 rfl rfl) xa_nil))) (hz_of (len_cons (len_cons (len_cons len_nil))) (by decide)))) (xl_cons (xo_cv (cv_T (cvt_odd (suba_cons Sub.rfl (suba_cons Sub.rfl (suba_cons Sub.rfl suba_nil))))) (xe_tup (xa_cons (xe_add (vE 9 rfl rfl) xe_int) (xa_cons (vE 10 rfl rfl) (xa_cons (vE 11 rfl rfl) xa_nil))) (hz_of (len_cons (len_cons (len_cons len_nil))) (by decide)))) (xl_cons (xo_cv (cv_T (cvt_odd (suba_cons Sub.rfl (suba_cons Sub.rfl (suba_cons Sub.rfl suba_nil))))) (xe_tup (xa_cons (xe_sub (vE 9 rfl rfl) xe_int) (xa_cons (vE 10 rfl rfl) (xa_cons (vE 11 rfl rfl) xa_nil))) (hz_of (len_cons (len_cons (len_cons len_nil))) (by decide)))) xl_nil)))))))) (fun v9 =>
 (xs_setF (i := 7) sc__law_papers.nd rfl (by first | exact .inl rfl | exact .inr rfl) (xf_cat (vL 7 rfl rfl) (xo_ci cv_F_L (xf_lst (t := (tOdd 3 (aCons tInt (aCons (tList tInt) (aCons (tList (tOpt (tT (aCons tInt (aCons (tList tInt) aNil))))) aNil))))) (xl_cons (xo_cv (cv_T (cvt_odd (suba_cons Sub.rfl (suba_cons Sub.rfl (suba_cons Sub.rfl suba_nil))))) (xe_tup (xa_cons (vE 9 rfl rfl) (xa_cons (xo_ci (cv_E (sub_N Sub.rfl)) (xe_F (xf_slice (xo_ci cv_E_L (vE 10 rfl rfl)) (xp_some xe_int) xp_none))) (xa_cons (vE 11 rfl rfl) xa_nil))) (hz_of (len_cons (len_cons (len_cons len_nil))) (by decide)))) (xl_cons (xo_cv (cv_T (cvt_odd (suba_cons Sub.rfl (suba_cons Sub.rfl (suba_cons Sub.rfl suba_nil))))) (xe_tup (xa_cons (vE 9 rfl rfl) (xa_cons (xo_ci (cv_E (sub_N Sub.rfl)) (xe_F (xf_cat (xo_ci cv_E_L (vE 10 rfl rfl)) (xo_ci cv_F_L (xf_lst (t := tInt) (xl_cons xe_int xl_nil)))))) (xa_cons (vE 11 rfl rfl) xa_nil))) (hz_of (len_cons (len_cons (len_cons len_nil))) (by decide)))) (xl_cons (xo_cv (cv_T (cvt_odd (suba_cons Sub.rfl (suba_cons Sub.rfl (suba_cons Sub.rfl suba_nil))))) (xe_tup (xa_cons xe_int (xa_cons (xo_ci (cv_E (sub_N Sub.rfl)) (xe_F (xf_rep (xo_ci cv_F_L (xf_lst (t := tInt) (xl_cons xe_int xl_nil))) (xe_len (by rfl) Tx.n_len (xo_ci cv_E_L (vE 10 rfl rfl)))))) (xa_cons (vE 11 rfl rfl) xa_nil))) (hz_of (len_cons (len_cons (len_cons len_nil))) (by decide)))) xl_nil)))))) (fun v10 =>
 (xs_for (s0 := (v10, ())) (fun (s : (List (Option (Int × (List Int) × (List (Option (Int × (List Int) × Unit))) × Unit))) × Unit) => ([(some (.sh (tList tInt) x.1)), (some (.sh (tT (aCons tInt (aCons (tList tInt) (aCons (tList (tOpt (tT (aCons tInt (aCons (tList tInt) aNil))))) aNil)))) x.2.1)), (some (.sh (tList tInt) x.2.2.1)), (some (.sh tInt v2)), (some (.sh tInt v3)), (some (.sh (tListN tInt) v4)), (some (.sh (tListN tInt) v6)), (some (.ol (tOdd 3 (aCons tInt (aCons (tList tInt) (aCons (tList (tOpt (tT (aCons tInt (aCons (tList tInt) aNil))))) aNil)))) s.1)), none, (some (.sh tInt v1.1)), (some (.sh (tList tInt) v1.2.1)), (some (.sh (tList (tOpt (tT (aCons tInt (aCons (tList tInt) aNil))))) v1.2.2.1)), none] : Tr.Env)) PassesOwn.never rfl (xi_listF (xo_call (d__law_bent_tables Tx) (hr.mono (by decide)) (by rfl) (xa_cons (vE 0 rfl rfl) (xa_cons (vE 11 rfl rfl) (xa_cons (vE 2 rfl rfl) xa_nil))))) (xg_name (i := 8) sc__law_papers.nd rfl (by first | exact .inl rfl | exact .inr rfl)) (.keep (.keep (.keep (.keep (.keep (.keep (.keep (.keep (.drop (.keep (.keep (.keep (.drop .nil))))))))))))) (fun s12 x11 =>
 (xs_append 7 rfl rfl (by first | exact Or.inl rfl | exact Or.inr (Or.inl rfl) | exact Or.inr (Or.inr rfl)) (xo_cv (cv_T (cvt_odd (suba_cons Sub.rfl (suba_cons Sub.rfl (suba_cons Sub.rfl suba_nil))))) (xe_tup (xa_cons (vE 9 rfl rfl) (xa_cons (vE 10 rfl rfl) (xa_cons (vE 8 rfl rfl) xa_nil))) (hz_of (len_cons (len_cons (len_cons len_nil))) (by decide)))) (fun v13 =>
 (xs_nil (s := (v13, ())) (.keep (.keep (.keep (.keep (.keep (.keep (.keep (.keep (.drop (.keep (.keep (.keep (.drop .nil))))))))))))))))) (fun s14 =>
 (xs_retO 7 rfl rfl)))))))))))))))))))))⟩
def m__law_papers (x : ((List Int) × (Int × (List Int) × (List (Option (Int × (List Int) × Unit))) × Unit) × (List Int) × Unit)) : R (List (Option (Int × (List Int) × (List (Option (Int × (List Int) × Unit))) × Unit))) := unF (p__law_papers x).1
theorem d__law_papers [HasT] {P : Program} {w : World} {K : PySem.W.Frag} {mg : Str → Option Value} {base : Heap} (Tx : Txt K mg base) : Def P w K mg base CX0 3 "_law_papers" (aCons (tList tInt) (aCons (tT (aCons tInt (aCons (tList tInt) (aCons (tList (tOpt (tT (aCons tInt (aCons (tList tInt) aNil))))) aNil)))) (aCons (tList tInt) aNil))) (kF (tOdd 3 (aCons tInt (aCons (tList tInt) (aCons (tList (tOpt (tT (aCons tInt (aCons (tList tInt) aNil))))) aNil))))) m__law_papers := by
  obtain ⟨f, fd, hm, F, hb⟩ := Tx.f__law_papers
  exact ⟨f, fd, ["lengths", "paper", "draws"], hm, F.kp, hb, fn_ok F sc__law_papers (ae_cons (ae_cons (ae_cons ae_nil))) rfl (fun _ => rfl) (fun cdv A outer s H E hr x => (p__law_papers x).2 Tx f cdv A outer s H E hr)⟩
end K73
end
section
set_option maxRecDepth 100000
set_option maxHeartbeats 4000000
namespace K73
open PySem L2 Tr

set_option maxHeartbeats 4000000 in
def p_law (x : ((List Int) × Unit)) : {m : R (Fl Empty Empty Bool) // ∀ [HasT] {P : Program} {w : World} {K : PySem.W.Frag} {mg : Str → Option Value} {base : Heap} (Tx : Txt K mg base) (f : Addr) (cdv : Value) (A : Around) (outer : List PySem.Env) (s : Shared) (H : Hp) (E : XK) (hr : Room 6 (A.deeper (PyProof.Rows.envOfC "law" (defScope s_law) s.heap.objs.size f cdv))) ,
   XS (cxOf CX0 P w K mg base ["script", "lengths", "kept", "labels", "draws", "great", "told", "bars", "papers", "bar", "waste", "turn", "other", "label", "paper", "answer"] "law" (defScope s_law) f cdv A outer s H E).nox ([some (.sh (tSeq tInt) x.1)] ++ List.replicate 15 none) (defBody s_law) eNo eNo (kE tBool) m} :=
  ⟨_, fun Tx f cdv A outer s H E hr =>
 (xs_set (i := 1) sc_law.nd rfl (by first | exact .inl rfl | exact .inr rfl) (xe_F (xo_call (d__law_lengths Tx) (hr.mono (by decide)) (by rfl) (xa_cons (vE 0 rfl rfl) (xa_cons xe_int xa_nil)))) (fun v1 =>
 (xs_set (i := 2) sc_law.nd rfl (by first | exact .inl rfl | exact .inr rfl) (xe_F (xf_list (by rfl) Tx.n_list (xo_ci cv_N_L (vE 1 rfl rfl)))) (fun v2 =>
 (xs_set (i := 3) sc_law.nd rfl (by first | exact .inl rfl | exact .inr rfl) (xe_F (xo_call (d__law_labels Tx) (hr.mono (by decide)) (by rfl) (xa_cons (xo_ci (cv_E (sub_N Sub.rfl)) (vE 1 rfl rfl)) xa_nil))) (fun v3 =>
 (xs_set (i := 4) sc_law.nd rfl (by first | exact .inl rfl | exact .inr rfl) (xe_F (xo_call (d__law_numbers Tx) (hr.mono (by decide)) (by rfl) (xa_cons (xo_call (d__law_cell Tx) (hr.mono (by decide)) (by rfl) (xa_cons (vE 0 rfl rfl) (xa_cons xe_int xa_nil))) (xa_cons xe_int (xa_cons xe_int xa_nil))))) (fun v4 =>
 (xs_set (i := 5) sc_law.nd rfl (by first | exact .inl rfl | exact .inr rfl) (xe_F (xo_call (d__law_numbers Tx) (hr.mono (by decide)) (by rfl) (xa_cons (xo_call (d__law_cell Tx) (hr.mono (by decide)) (by rfl) (xa_cons (vE 0 rfl rfl) (xa_cons xe_int xa_nil))) (xa_cons xe_int (xa_cons (xe_add (xe_pow xe_int xe_int) xe_int) xa_nil))))) (fun v5 =>
 (xs_setLc (i := 6) (own := [("label", 13)]) rfl sc_law.nd rfl rfl rfl (xic_list (xo_ci cv_N_L (vE 3 rfl rfl))) (blkOk_by (N := ["script", "lengths", "kept", "labels", "draws", "great", "told", "bars", "papers", "bar", "waste", "turn", "other", "label", "paper", "answer"]) (sc := defScope s_law) (by decide +kernel)) (fun s H C cl fp => (xg_name (i := 13) sc_law.nd rfl (by first | exact .inl rfl | exact .inr rfl))) (fun s H C cl fp x7 => xts_one (xt_notN (vE 13 rfl rfl))) (fun s H C cl fp x7 => (vE 13 rfl rfl)) (fun v6 =>
 (xs_freeze 6 rfl
 (xs_set (i := 7) sc_law.nd rfl (by first | exact .inl rfl | exact .inr rfl) (xo_ci (cv_E (sub_N Sub.rfl)) (xe_F (xf_lst (t := tInt) (xl_cons (xe_ix (xo_ci cv_N_L (vE 5 rfl rfl)) xe_int) (xl_cons (xe_mod (xe_ix (xo_ci cv_N_L (vE 4 rfl rfl)) xe_int) xe_int) (xl_cons (xe_mod (xe_ix (xo_ci cv_N_L (vE 4 rfl rfl)) xe_int) xe_int) (xl_cons (xe_max2 rfl (by rfl) Tx.n_max (xa_cons xe_int (xa_cons (xe_sub (xo_cp cp_get (xe_ix (xo_ci cv_N_L (vE 6 rfl rfl)) (xe_mod (xe_ix (xo_ci cv_N_L (vE 4 rfl rfl)) xe_int) (xe_len (by rfl) Tx.n_len (xo_ci cv_N_L (vE 6 rfl rfl)))))) xe_int) xa_nil))) (xl_cons (xe_mod (xe_ix (xo_ci cv_N_L (vE 4 rfl rfl)) xe_int) (xe_mul xe_int (xe_ix (xo_ci cv_N_L (vE 1 rfl rfl)) xe_int))) (xl_cons (xe_sub (xe_pow xe_int xe_int) (xe_mod (xe_ix (xo_ci cv_N_L (vE 5 rfl rfl)) xe_int) xe_int)) xl_nil))))))))) (fun v8 =>
 (xs_setF (i := 8) sc_law.nd rfl (by first | exact .inl rfl | exact .inr rfl) (xf_lst (t := (tOdd 3 (aCons tInt (aCons (tList tInt) (aCons (tList (tOpt (tT (aCons tInt (aCons (tList tInt) aNil))))) aNil))))) xl_nil) (fun v9 =>
 (xs_for (s0 := (v9, ())) (fun (s : (List (Option (Int × (List Int) × (List (Option (Int × (List Int) × Unit))) × Unit))) × Unit) => ([(some (.sh (tSeq tInt) x.1)), (some (.sh (tListN tInt) v1)), (some (.sh (tListN tInt) v2)), (some (.sh (tListN (tOpt tInt)) v3)), (some (.sh (tListN tInt) v4)), (some (.sh (tListN tInt) v5)), (some (.sh (tListN (tOpt tInt)) v6)), (some (.sh (tList tInt) v8)), (some (.ol (tOdd 3 (aCons tInt (aCons (tList tInt) (aCons (tList (tOpt (tT (aCons tInt (aCons (tList tInt) aNil))))) aNil)))) s.1)), none, none, none, none, none, none, none] : Tr.Env)) PassesOwn.never rfl (xi_listF (xf_slice (xo_ci cv_E_L (vE 7 rfl rfl)) (xp_some (xe_mod (xe_ix (xo_ci cv_N_L (vE 4 rfl rfl)) xe_int) xe_int)) xp_none)) (xg_name (i := 9) sc_law.nd rfl (by first | exact .inl rfl | exact .inr rfl)) (.keep (.keep (.keep (.keep (.keep (.keep (.keep (.keep (.keep (.drop (.drop (.drop (.drop (.drop (.drop (.drop .nil)))))))))))))))) (fun s11 x10 =>
 (xs_set (i := 10) sc_law.nd rfl (by first | exact .inl rfl | exact .inr rfl) xe_int (fun v12 =>
 (xs_for (s0 := (v12, ())) (fun (s : Int × Unit) => ([(some (.sh (tSeq tInt) x.1)), (some (.sh (tListN tInt) v1)), (some (.sh (tListN tInt) v2)), (some (.sh (tListN (tOpt tInt)) v3)), (some (.sh (tListN tInt) v4)), (some (.sh (tListN tInt) v5)), (some (.sh (tListN (tOpt tInt)) v6)), (some (.sh (tList tInt) v8)), (some (.ol (tOdd 3 (aCons tInt (aCons (tList tInt) (aCons (tList (tOpt (tT (aCons tInt (aCons (tList tInt) aNil))))) aNil)))) s11.1)), (some (.sh tInt x10)), (some (.sh tInt s.1)), none, none, none, none, none] : Tr.Env)) PassesOwn.never rfl (xi_range1 (by rfl) Tx.n_range (xe_ix (xo_ci cv_N_L (vE 1 rfl rfl)) xe_int)) (xg_name (i := 11) sc_law.nd rfl (by first | exact .inl rfl | exact .inr rfl)) (.keep (.keep (.keep (.keep (.keep (.keep (.keep (.keep (.keep (.keep (.keep (.drop (.drop (.drop (.drop (.drop .nil)))))))))))))))) (fun s14 x13 =>
 (xs_set (i := 13) sc_law.nd rfl (by first | exact .inl rfl | exact .inr rfl) (xe_ix (xo_ci cv_N_L (vE 3 rfl rfl)) (xe_mod (xe_int1 (by rfl) Tx.n_int (xe_sub (vE 9 rfl rfl) (vE 10 rfl rfl))) (xe_ix (xo_ci cv_N_L (vE 1 rfl rfl)) xe_int))) (fun v15 =>
 (xs_ifE (xw_pt (xw_or (xt_isN (vE 13 rfl rfl)) (xw_or1 (xt_gt (xo_cp cp_get (vE 13 rfl rfl)) (xe_sub (vE 9 rfl rfl) (vE 10 rfl rfl))))))
 (xs_set (i := 10) sc_law.nd rfl (by first | exact .inl rfl | exact .inr rfl) (xe_add (vE 10 rfl rfl) xe_int) (fun v16 =>
 (xs_nil (s := (v16, ())) (.keep (.keep (.keep (.keep (.keep (.keep (.keep (.keep (.keep (.keep (.keep (.drop (.drop (.drop (.drop (.drop .nil)))))))))))))))))))
 (xs_nil (s := (s14.1, ())) (.keep (.keep (.keep (.keep (.keep (.keep (.keep (.keep (.keep (.keep (.keep (.drop (.drop (.drop (.drop (.drop .nil))))))))))))))))))))) (fun s17 =>
 (xs_for (s0 := (none, ())) (fun (s : Option (Int × (List Int) × (List (Option (Int × (List Int) × Unit))) × Unit) × Unit) => ([(some (.sh (tSeq tInt) x.1)), (some (.sh (tListN tInt) v1)), (some (.sh (tListN tInt) v2)), (some (.sh (tListN (tOpt tInt)) v3)), (some (.sh (tListN tInt) v4)), (some (.sh (tListN tInt) v5)), (some (.sh (tListN (tOpt tInt)) v6)), (some (.sh (tList tInt) v8)), (some (.ol (tOdd 3 (aCons tInt (aCons (tList tInt) (aCons (tList (tOpt (tT (aCons tInt (aCons (tList tInt) aNil))))) aNil)))) s11.1)), (some (.sh tInt x10)), (some (.sh tInt s17.1)), none, none, none, (gapS (tT (aCons tInt (aCons (tListN tInt) (aCons (tListN (tOpt (tT (aCons tInt (aCons (tListN tInt) aNil))))) aNil)))) s.1), none] : Tr.Env)) PassesOwn.never rfl (xi_range1 (by rfl) Tx.n_range xe_int) (xg_name (i := 11) sc_law.nd rfl (by first | exact .inl rfl | exact .inr rfl)) (.keep (.keep (.keep (.keep (.keep (.keep (.keep (.keep (.keep (.keep (.keep (.drop (.drop (.drop (.drop (.drop .nil)))))))))))))))) (fun s19 x18 =>
 (xs_block (inE := fun (t20 : L2.St) => ([(some (.sh (tAg t20 0 tAny) ())), (some (.sh (tAg t20 1 (tList tInt)) v1)), (some (.sh (tAg t20 2 (tList tInt)) v2)), (some (.sh (tAg t20 3 tAny) ())), (some (.sh (tAg t20 4 tAny) ())), (some (.sh (tAg t20 5 tAny) ())), (some (.sh (tAg t20 6 tAny) ())), (some (.sh (tAg t20 7 tAny) ())), (some (.sh (tAg t20 8 tAny) ())), (some (.sh (tAg t20 9 tInt) x10)), (some (.sh (tAg t20 10 tInt) s17.1)), (some (.ck (tAg t20 11 tInt) x18)), none, none, none, none] : Tr.Env)) (eN' := (fun (t20 : L2.St) (s : Option (Int × (List Int) × (List (Option (Int × (List Int) × Unit))) × Unit) × Unit) => ([(some (.sh (tAg t20 0 tAny) ())), (some (.sh (tAg t20 1 tAny) ())), (some (.sh (tAg t20 2 tAny) ())), (some (.sh (tAg t20 3 tAny) ())), (some (.sh (tAg t20 4 tAny) ())), (some (.sh (tAg t20 5 tAny) ())), (some (.sh (tAg t20 6 tAny) ())), (some (.sh (tAg t20 7 tAny) ())), (some (.sh (tAg t20 8 tAny) ())), (some (.sh (tAg t20 9 tAny) ())), (some (.sh (tAg t20 10 tAny) ())), none, none, none, (gapS (tT (aCons tInt (aCons (tListN tInt) (aCons (tListN (tOpt (tT (aCons tInt (aCons (tListN tInt) aNil))))) aNil)))) s.1), none] : Tr.Env))) (eB' := (fun (t20 : L2.St) (s : Option (Int × (List Int) × (List (Option (Int × (List Int) × Unit))) × Unit) × Unit) => ([(some (.sh (tAg t20 0 tAny) ())), (some (.sh (tAg t20 1 tAny) ())), (some (.sh (tAg t20 2 tAny) ())), (some (.sh (tAg t20 3 tAny) ())), (some (.sh (tAg t20 4 tAny) ())), (some (.sh (tAg t20 5 tAny) ())), (some (.sh (tAg t20 6 tAny) ())), (some (.sh (tAg t20 7 tAny) ())), (some (.sh (tAg t20 8 tAny) ())), (some (.sh (tAg t20 9 tAny) ())), (some (.sh (tAg t20 10 tAny) ())), none, none, none, (gapS (tT (aCons tInt (aCons (tListN tInt) (aCons (tListN (tOpt (tT (aCons tInt (aCons (tListN tInt) aNil))))) aNil)))) s.1), none] : Tr.Env))) (fun t20 => (.hid (.pu inferInstance (sub_N Sub.rfl) (.pu inferInstance (sub_N Sub.rfl) (.hid (.hid (.hid (.hid (.hid (.hid (.pu inferInstance Sub.rfl (.pu inferInstance Sub.rfl (.puc inferInstance Sub.rfl (.drop (.drop (.drop (.drop .nil))))))))))))))))) (fun t20 =>
 (xs_set (i := 14) sc_law.nd rfl (by first | exact .inl rfl | exact .inr rfl) (xo_call (d_find_waste Tx) (hr.mono (by decide)) (by rfl) (xa_cons (xo_ci (cv_E sub_ag) (vE 1 rfl rfl)) (xa_cons (xo_ci (cv_E sub_ag) (vE 9 rfl rfl)) xa_nil))) (fun v21 =>
 (xs_ifR (xw_pt (xw_or (xt_not (xt_val (xe_isi (n := "tuple") (T := "tuple") true (by decide +kernel) (by rfl) Tx.n_isinstance (by rfl) Tx.n_tuple boot_tupleT (vE 14 rfl rfl)))) (xw_or (xt_ne (xe_lenK 3 (len_cons (len_cons (len_cons len_nil))) (by rfl) Tx.n_len (vE 14 rfl rfl)) xe_int) (xw_or (xt_not (xt_val (xo_call (d__law_same_int Tx) (hr.mono (by decide)) (by rfl) (xa_cons (xe_nth (k := 0) (vE 14 rfl rfl) nth0) (xa_cons (xo_ci (cv_E sub_ag) (vE 10 rfl rfl)) xa_nil))))) (xw_or1 (xt_not (xt_val (xe_isi (n := "list") (T := "list") true (by decide +kernel) (by rfl) Tx.n_isinstance (by rfl) Tx.n_list boot_listT (xe_nth (k := 1) (vE 14 rfl rfl) (nthS nth0))))))))))
 (xs_ret xe_bl)
 (xs_ifR (xw_pt (xw_or (xt_ge (xo_ci (cv_E sub_ag) (vE 10 rfl rfl)) (xe_ix (xo_ci cv_E_L (xo_ci (cv_E sub_ag) (vE 1 rfl rfl))) xe_int)) (xw_or (xt_not (xt_val (xo_call (d__law_accepts Tx) (hr.mono (by decide)) (by rfl) (xa_cons (xo_ci (cv_E sub_ag) (vE 1 rfl rfl)) (xa_cons (xo_ci (cv_E sub_ag) (vE 9 rfl rfl)) (xa_cons (xo_cv (cv_T (cvt_odd (suba_cons Sub.rfl (suba_cons (sub_N Sub.rfl) (suba_cons (sub_N (sub_O (sub_T (suba_cons Sub.rfl (suba_cons (sub_N Sub.rfl) suba_nil))))) suba_nil))))) (vE 14 rfl rfl)) xa_nil)))))) (xw_or1 (xt_neD hr (xo_ci (cv_E sub_ag) (vE 1 rfl rfl)) (xo_ci (cv_E sub_ag) (vE 2 rfl rfl)))))))
 (xs_ret xe_bl)
 (xs_ifE (xt_eq (xo_ci (cv_E sub_ag) (vC 11 rfl rfl)) xe_int)
 (xs_spoil2 (i := 1) (j := 2) 11 14 rfl rfl rfl (by first | exact Or.inl rfl | exact Or.inr (Or.inl rfl) | exact Or.inr (Or.inr rfl)) (nthS nth0) (nthS (nthS nth0)) (.ag (.ag (.ag (.ag (.ag (.ag (.ag (.ag (.ag (.ag (.ag (.agc (.drop (.drop (.drop (.drop .nil))))))))))))))))
 (xs_wkA (.ag (.ag (.ag (.ag (.ag (.ag (.ag (.ag (.ag (.ag (.ag (.drop (.drop (.drop (.drop (.drop .nil)))))))))))))))) (xs_nil (s := (none, ())) (.keep (.keep (.keep (.keep (.keep (.keep (.keep (.keep (.keep (.keep (.keep (.drop (.drop (.drop (.drop (.drop .nil)))))))))))))))))))
 (xs_wkA (.ag (.ag (.ag (.ag (.ag (.ag (.ag (.ag (.ag (.ag (.ag (.drop (.drop (.drop (.keep (.drop .nil)))))))))))))))) (xs_nil (s := (some v21, ())) (.keep (.keep (.keep (.keep (.keep (.keep (.keep (.keep (.keep (.keep (.keep (.drop (.drop (.drop (.keep (.drop .nil)))))))))))))))))))))))) (fun t20 s => (.back (.back (.back (.back (.back (.back (.back (.back (.back (.back (.back (.drop (.drop (.drop (.gap (.drop .nil))))))))))))))))) (fun t20 s => (.back (.back (.back (.back (.back (.back (.back (.back (.back (.back (.back (.drop (.drop (.drop (.gap (.drop .nil))))))))))))))))))) (fun s22 =>
 (xs_gap (eL := (fun (s : Option (Int × (List Int) × (List (Option (Int × (List Int) × Unit))) × Unit) × Unit) => ([(some (.sh (tSeq tInt) x.1)), (some (.sh (tListN tInt) v1)), (some (.sh (tListN tInt) v2)), (some (.sh (tListN (tOpt tInt)) v3)), (some (.sh (tListN tInt) v4)), (some (.sh (tListN tInt) v5)), (some (.sh (tListN (tOpt tInt)) v6)), (some (.sh (tList tInt) v8)), (some (.ol (tOdd 3 (aCons tInt (aCons (tList tInt) (aCons (tList (tOpt (tT (aCons tInt (aCons (tList tInt) aNil))))) aNil)))) s11.1)), (some (.sh tInt x10)), (some (.sh tInt s17.1)), none, none, none, (gapS (tT (aCons tInt (aCons (tListN tInt) (aCons (tListN (tOpt (tT (aCons tInt (aCons (tListN tInt) aNil))))) aNil)))) s.1), none] : Tr.Env))) (fun y23 r24 =>
 (xs_append 8 rfl rfl (by first | exact Or.inl rfl | exact Or.inr (Or.inl rfl) | exact Or.inr (Or.inr rfl)) (xo_cv (cv_T (cvt_odd (suba_cons Sub.rfl (suba_cons (sub_N Sub.rfl) (suba_cons (sub_N (sub_O (sub_T (suba_cons Sub.rfl (suba_cons (sub_N Sub.rfl) suba_nil))))) suba_nil))))) (vE 14 rfl rfl)) (fun v25 =>
 (xs_for (s0 := (())) (fun (s : Unit) => ([(some (.sh (tSeq tInt) x.1)), (some (.sh (tListN tInt) v1)), (some (.sh (tListN tInt) v2)), (some (.sh (tListN (tOpt tInt)) v3)), (some (.sh (tListN tInt) v4)), (some (.sh (tListN tInt) v5)), (some (.sh (tListN (tOpt tInt)) v6)), (some (.sh (tList tInt) v8)), (some (.ol (tOdd 3 (aCons tInt (aCons (tList tInt) (aCons (tList (tOpt (tT (aCons tInt (aCons (tList tInt) aNil))))) aNil)))) v25)), (some (.sh tInt x10)), (some (.sh tInt s17.1)), none, none, none, (some (.sh (tT (aCons tInt (aCons (tListN tInt) (aCons (tListN (tOpt (tT (aCons tInt (aCons (tListN tInt) aNil))))) aNil)))) y23)), none] : Tr.Env)) PassesOwn.never rfl (xi_listF (xf_cat (xo_ci cv_F_L (xo_call (d__law_papers Tx) (hr.mono (by decide)) (by rfl) (xa_cons (xo_ci (cv_E (sub_N Sub.rfl)) (vE 1 rfl rfl)) (xa_cons (xo_ci (cv_E (sub_T (suba_cons Sub.rfl (suba_cons (sub_N Sub.rfl) (suba_cons (sub_N (sub_O (sub_T (suba_cons Sub.rfl (suba_cons (sub_N Sub.rfl) suba_nil))))) suba_nil))))) (vE 14 rfl rfl)) (xa_cons (xo_ci (cv_E (sub_N Sub.rfl)) (xe_F (xf_slice (xo_ci cv_N_L (vE 4 rfl rfl)) (xp_some xe_int) xp_none))) xa_nil))))) (vL 8 rfl rfl))) (xg_name (i := 12) sc_law.nd rfl (by first | exact .inl rfl | exact .inr rfl)) (.keep (.keep (.keep (.keep (.keep (.keep (.keep (.keep (.keep (.keep (.keep (.drop (.drop (.drop (.keep (.drop .nil)))))))))))))))) (fun s27 x26 =>
 (xs_set (i := 15) sc_law.nd rfl (by first | exact .inl rfl | exact .inr rfl) (xo_call (d_judge_waste Tx) (hr.mono (by decide)) (by rfl) (xa_cons (xo_ci (cv_E (sub_N Sub.rfl)) (vE 1 rfl rfl)) (xa_cons (vE 9 rfl rfl) (xa_cons (vE 12 rfl rfl) xa_nil)))) (fun v28 =>
 (xs_ifR (xw_pt (xw_or (xt_not (xt_val (xo_call (d__law_same_bool Tx) (hr.mono (by decide)) (by rfl) (xa_cons (vE 15 rfl rfl) (xa_cons (xo_call (d__law_accepts Tx) (hr.mono (by decide)) (by rfl) (xa_cons (xo_ci (cv_E (sub_N Sub.rfl)) (vE 1 rfl rfl)) (xa_cons (vE 9 rfl rfl) (xa_cons (vE 12 rfl rfl) xa_nil)))) xa_nil))))) (xw_or1 (xw_pt (xw_and (xt_val (vE 15 rfl rfl)) (xw_and1 (xt_ne (xe_nth (k := 0) (xo_cp cp_odd (vE 12 rfl rfl)) nth0) (vE 10 rfl rfl))))))))
 (xs_ret xe_bl)
 (xs_nil (s := (())) (.keep (.keep (.keep (.keep (.keep (.keep (.keep (.keep (.keep (.keep (.keep (.drop (.drop (.drop (.keep (.drop .nil))))))))))))))))))))) (fun s29 =>
 (xs_nil (s := (v25, ())) (.keep (.keep (.keep (.keep (.keep (.keep (.keep (.keep (.keep (.drop (.drop (.drop (.drop (.drop (.drop (.drop .nil)))))))))))))))))))))))) (nc := by rintro ⟨_ | _, _⟩ <;> rfl))))))) (fun s30 =>
 (xs_ret xe_bl))))))))))))))))))))⟩
def m_law (x : ((List Int) × Unit)) : R Bool := unF (p_law x).1
theorem d_law [HasT] {P : Program} {w : World} {K : PySem.W.Frag} {mg : Str → Option Value} {base : Heap} (Tx : Txt K mg base) : Def P w K mg base CX0 7 "law" (aCons (tSeq tInt) aNil) (kE tBool) m_law := by
  obtain ⟨f, fd, hm, F, hb⟩ := Tx.f_law
  exact ⟨f, fd, ["script"], hm, F.kp, hb, fn_ok F sc_law (ae_cons ae_nil) rfl (fun _ => rfl) (fun cdv A outer s H E hr x => (p_law x).2 Tx f cdv A outer s H E hr)⟩
end K73
end
section
set_option maxRecDepth 100000
set_option maxHeartbeats 2000000
/-! Ma73: tables of lengths, plain mathematics. -/
namespace K73
open PySem L2 Tr
abbrev Item := Int × List Int × Unit
abbrev Tab := List (Option Item)
def sumOf (ls ns : List Int) : Int := ((zipL ls ns).map fun x => x.1 * x.2.1).sum
theorem sumOf_cons (l n : Int) (ls ns : List Int) : sumOf (l :: ls) (n :: ns) = l * n + sumOf ls ns := by
  unfold sumOf zipL
  rw [List.zipWith_cons_cons, List.map_cons, List.sum_cons]
theorem sumOf_nil (ns : List Int) : sumOf [] ns = 0 := rfl
theorem sumOf_nilR (ls : List Int) : sumOf ls [] = 0 := by cases ls <;> rfl
inductive Rep (ls : List Int) : Int → Prop where
  | zero : Rep ls 0
  | add {n l : Int} : Rep ls n → l ∈ ls → Rep ls (n + l)
theorem rep_plus {ls : List Int} {m n : Int} (h : Rep ls m) (k : Rep ls n) : Rep ls (m + n) := by
  induction k with
  | zero => rw [Int.add_zero]; exact h
  | add _ hl ih => rw [← Int.add_assoc]; exact .add ih hl
theorem rep_mul {ls : List Int} {l : Int} (hl : l ∈ ls) : ∀ k : Nat, Rep ls (l * k)
  | 0 => by rw [show l * ((0 : Nat) : Int) = 0 by simp]; exact .zero
  | k + 1 => by
    rw [show l * ((k + 1 : Nat) : Int) = l * k + l by rw [Int.natCast_add, Int.mul_add]; simp]
    exact .add (rep_mul hl k) hl
theorem rep_sum {ls : List Int} : ∀ (xs ns : List Int), (∀ x ∈ xs, x ∈ ls) → (∀ n ∈ ns, 0 ≤ n) → Rep ls (sumOf xs ns)
  | [], _, _, _ => .zero
  | _ :: _, [], _, _ => by rw [sumOf_nilR]; exact .zero
  | x :: xs, n :: ns, h, k => by
    rw [sumOf_cons]
    have hn := k n List.mem_cons_self
    have := rep_mul (ls := ls) (h x List.mem_cons_self) n.toNat
    rw [show ((n.toNat : Nat) : Int) = n by omega] at this
    exact rep_plus this (rep_sum xs ns (fun y hy => h y (List.mem_cons_of_mem _ hy)) fun y hy => k y (List.mem_cons_of_mem _ hy))
def hd (ls : List Int) : Int := ls.getD 0 1
structure Good (ls : List Int) : Prop where
  ne : ls ≠ []
  pos : ∀ l ∈ ls, 1 ≤ l
  le : ∀ l ∈ ls, l ≤ 60
  len : ls.length ≤ 8
theorem Good.hd_mem {ls : List Int} (g : Good ls) : hd ls ∈ ls := by
  cases ls with
  | nil => exact absurd rfl g.ne
  | cons l r => exact List.mem_cons_self
theorem Good.hd_get {ls : List Int} (g : Good ls) : ls[0]? = some (hd ls) := by
  cases ls with
  | nil => exact absurd rfl g.ne
  | cons l r => rfl
def valid (ls ns : List Int) (g : Int) : Prop := ns.length = ls.length ∧ (∀ n ∈ ns, 0 ≤ n) ∧ sumOf ls ns = g
theorem valid.rep {ls ns : List Int} {g : Int} (h : valid ls ns g) : Rep ls g := by
  rw [← h.2.2]
  exact rep_sum ls ns (fun _ h => h) h.2.1
theorem rep_nn {ls : List Int} (g : ∀ l ∈ ls, 1 ≤ l) {n : Int} (h : Rep ls n) : 0 ≤ n := by
  induction h with
  | zero => exact Int.le_refl _
  | add _ hl ih => have := g _ hl; omega
/-- the item at a place -/
def at_ (t : Tab) (i : Int) : Option Item := t.getD i.toNat none
theorem at_get {t : Tab} {i : Int} (h0 : 0 ≤ i) (h : i < t.length) : atR t i = .ok (at_ t i) := by
  refine atR_get h0 ?_
  unfold at_
  rw [List.getD_eq_getElem?_getD, List.getElem?_eq_getElem (by omega)]
  rfl
def okItem (ls : List Int) (t : Tab) (r : Int) : Prop := ∀ it, at_ t r = some it → valid ls it.2.1 it.1 ∧ it.1 % hd ls = r ∧ ∀ l ∈ ls, ∃ it', at_ t ((it.1 + l) % hd ls) = some it' ∧ it'.1 ≤ it.1 + l
structure Acc (ls : List Int) (t : Tab) : Prop where
  len : (t.length : Int) = hd ls
  zero : ∃ it, at_ t 0 = some it ∧ it.1 = 0
  items : ∀ r, 0 ≤ r → r < hd ls → okItem ls t r
def told (ls : List Int) (t : Tab) (n : Int) : Prop := ∃ it, at_ t (n % hd ls) = some it ∧ it.1 ≤ n
theorem Acc.told {ls : List Int} {t : Tab} (g : Good ls) (A : Acc ls t) {n : Int} (h : Rep ls n) : told ls t n := by
  have ha := g.pos _ g.hd_mem
  induction h with
  | zero =>
    obtain ⟨it, h1, h2⟩ := A.zero
    exact ⟨it, by rw [Int.zero_emod]; exact h1, by omega⟩
  | @add n l _ hl ih =>
    obtain ⟨it, h1, h2⟩ := ih
    obtain ⟨_, h3, h4⟩ := A.items _ (Int.emod_nonneg _ (by omega)) (Int.emod_lt_of_pos _ (by omega)) it h1
    obtain ⟨it', h5, h6⟩ := h4 l hl
    refine ⟨it', ?_, by omega⟩
    rw [← h5, Int.add_emod, ← h3, ← Int.add_emod]
theorem Acc.rep {ls : List Int} {t : Tab} (g : Good ls) (A : Acc ls t) {n : Int} (h : K73.told ls t n) : Rep ls n := by
  have ha := g.pos _ g.hd_mem
  obtain ⟨it, h1, h2⟩ := h
  obtain ⟨h3, h4, _⟩ := A.items _ (Int.emod_nonneg _ (by omega)) (Int.emod_lt_of_pos _ (by omega)) it h1
  have e : n = it.1 + hd ls * ((n - it.1) / hd ls) := by
    have : (n - it.1) % hd ls = 0 := Int.emod_eq_emod_iff_emod_sub_eq_zero.mp h4.symm
    have := Int.mul_ediv_add_emod (n - it.1) (hd ls)
    omega
  have hk : 0 ≤ (n - it.1) / hd ls := Int.ediv_nonneg (by omega) (by omega)
  rw [e]
  have := rep_mul (ls := ls) g.hd_mem ((n - it.1) / hd ls).toNat
  rw [show ((((n - it.1) / hd ls).toNat : Nat) : Int) = (n - it.1) / hd ls by omega] at this
  exact rep_plus h3.rep this
theorem Acc.iff {ls : List Int} {t : Tab} (g : Good ls) (A : Acc ls t) (n : Int) : K73.told ls t n ↔ Rep ls n := ⟨A.rep g, A.told g⟩
/-- the least waste -/
structure Least (ls : List Int) (bar w : Int) : Prop where
  nn : 0 ≤ w
  rep : Rep ls (bar - w)
  min : ∀ s, 0 ≤ s → s < w → ¬Rep ls (bar - s)
theorem Least.lt {ls : List Int} {bar w : Int} (g : Good ls) (L : Least ls bar w) : w < hd ls := by
  have ha := g.pos _ g.hd_mem
  refine Classical.byContradiction fun h => ?_
  refine L.min (w % hd ls) (Int.emod_nonneg _ (by omega)) (by have := Int.emod_lt_of_pos w (show 0 < hd ls by omega); omega) ?_
  have e : bar - w % hd ls = bar - w + hd ls * (w / hd ls) := by
    have := Int.mul_ediv_add_emod w (hd ls)
    omega
  have hk : 0 ≤ w / hd ls := Int.ediv_nonneg L.nn (by omega)
  rw [e]
  have := rep_mul (ls := ls) g.hd_mem (w / hd ls).toNat
  rw [show (((w / hd ls).toNat : Nat) : Int) = w / hd ls by omega] at this
  exact rep_plus L.rep this
theorem Least.eq {ls : List Int} {bar w v : Int} (L : Least ls bar w) (M : Least ls bar v) : w = v := by
  rcases Int.lt_trichotomy w v with h | h | h
  · exact (M.min w L.nn h L.rep).elim
  · exact h
  · exact (L.min v M.nn h M.rep).elim
abbrev Paper := Int × List Int × Tab × Unit
/-- the papers that are accepted -/
def AccW (ls : List Int) (bar : Int) (p : Paper) : Prop := Acc ls p.2.2.1 ∧ 0 ≤ p.1 ∧ valid ls p.2.1 (bar - p.1) ∧ ∀ s, 0 ≤ s → s < min p.1 (hd ls) → ¬told ls p.2.2.1 (bar - s)
theorem AccW.least {ls : List Int} {bar : Int} {p : Paper} (g : Good ls) (h : AccW ls bar p) : Least ls bar p.1 := by
  obtain ⟨A, h0, v, hm⟩ := h
  have ha := g.pos _ g.hd_mem
  have hlt : p.1 < hd ls := by
    refine Classical.byContradiction fun hc => ?_
    refine hm (p.1 % hd ls) (Int.emod_nonneg _ (by omega)) (by have := Int.emod_lt_of_pos p.1 (show 0 < hd ls by omega); omega) ?_
    rw [A.iff g]
    have e : bar - p.1 % hd ls = bar - p.1 + hd ls * (p.1 / hd ls) := by
      have := Int.mul_ediv_add_emod p.1 (hd ls)
      omega
    have hk : 0 ≤ p.1 / hd ls := Int.ediv_nonneg h0 (by omega)
    rw [e]
    have := rep_mul (ls := ls) g.hd_mem (p.1 / hd ls).toNat
    rw [show (((p.1 / hd ls).toNat : Nat) : Int) = p.1 / hd ls by omega] at this
    exact rep_plus v.rep this
  exact ⟨h0, v.rep, fun s h1 h2 r => hm s h1 (by omega) ((A.iff g _).mpr r)⟩
end K73
end
section
set_option maxRecDepth 100000
set_option maxHeartbeats 2000000
namespace K73
open PySem L2 Tr
theorem zipL_mem {ls ns : List Int} {x : Int × Int × Unit} (h : x ∈ zipL ls ns) : x.1 ∈ ls := by
  obtain ⟨i, hi⟩ := List.getElem?_of_mem h
  obtain ⟨a, b, h1, _, rfl⟩ := zipL_at hi
  exact List.mem_of_getElem? h1
theorem sum_of_ok {ls ns : List Int} (g : Good ls) : m_sum_of (ls, ns, ()) = .ok (sumOf ls ns) := by
  unfold m_sum_of p_sum_of
  simp only [okb]
  rw [mapR_ok (xs := zipL ls ns) (h := fun x => x.1 * x.2.1) fun x hx => mulR_okL (by have := g.pos _ (zipL_mem hx); omega) (by have := g.le _ (zipL_mem hx); omega)]
  rfl
theorem sum_range {ls ns : List Int} (hl : ns.length = ls.length) : (rangeL 0 ls.length).map (fun i => ls.getD i.toNat 0 * ns.getD i.toNat 0) = (zipL ls ns).map fun x => x.1 * x.2.1 := by
  refine List.ext_getElem? fun i => ?_
  by_cases h : i < ls.length
  · rw [List.getElem?_map, rangeL_at h, List.getElem?_map]
    unfold zipL
    rw [List.getElem?_zipWith, List.getElem?_eq_getElem h, List.getElem?_eq_getElem (show i < ns.length by omega)]
    simp [List.getD_eq_getElem?_getD, List.getElem?_eq_getElem h, List.getElem?_eq_getElem (show i < ns.length by omega)]
  · rw [List.getElem?_eq_none (by rw [List.length_map, rangeL_length]; omega), List.getElem?_eq_none (by simp [zipL]; omega)]
theorem law_sum_ok {ls ns : List Int} (g : Good ls) (hl : ns.length = ls.length) : m__law_sum_of (ls, ns, ()) = .ok (sumOf ls ns) := by
  have hn := g.len
  unfold m__law_sum_of p__law_sum_of
  simp only [okb]
  rw [rng1R_ok (by omega) (by omega), okb, szLR_ok (by rw [rangeL_length]; omega), okb]
  rw [mapR_ok (h := fun i => ls.getD i.toNat 0 * ns.getD i.toNat 0) fun i hi => ?_]
  · rw [okb, okb, Int.toNat_natCast, sum_range hl]
    rfl
  · rw [rangeL_mem] at hi
    rw [getD_int 0 hi.1 (by omega), okb, getD_int 0 hi.1 (by omega), okb]
    have hm := getD_mem (xs := ls) 0 hi.1 (by omega)
    exact mulR_okL (by have := g.pos _ hm; omega) (by have := g.le _ hm; omega)
theorem says_are {ls ns : List Int} {goal : Int} (g : Good ls) : Says (m_are_numbers (ls, ns, goal, ())) (valid ls ns goal) := by
  unfold m_are_numbers p_are_numbers
  simp only [okb]
  refine Says.iff (P := (¬(¬(ns.length : Int) = ls.length ∨ ¬∀ x ∈ ns, 0 ≤ x)) ∧ sumOf ls ns = goal) ?_ ?_
  · refine says_ifR (says_or says_ndec fun _ => says_not (says_all fun x _ => says_dec)) fun _ => says_ret ?_
    rw [sum_of_ok g, okb]
    exact says_dec
  · unfold valid
    simp only [not_or, Classical.not_not]
    constructor
    · rintro ⟨⟨h1, h2⟩, h3⟩
      exact ⟨by omega, h2, h3⟩
    · rintro ⟨h1, h2, h3⟩
      exact ⟨⟨by omega, h2⟩, h3⟩
theorem filter_pos {p : Int → Bool} {ns : List Int} : (0 : Int) < ((ns.filter p).map fun x => x).length ↔ ∃ x ∈ ns, p x = true := by
  rw [List.length_map]
  constructor
  · intro h
    obtain ⟨x, hx⟩ := List.exists_mem_of_length_pos (show 0 < (ns.filter p).length by omega)
    exact ⟨x, (List.mem_filter.mp hx).1, (List.mem_filter.mp hx).2⟩
  · rintro ⟨x, h1, h2⟩
    have := List.length_pos_of_mem (List.mem_filter.mpr ⟨h1, h2⟩)
    omega
theorem says_lawAre {ls ns : List Int} {goal : Int} (g : Good ls) : Says (m__law_are_numbers (ls, ns, goal, ())) (valid ls ns goal) := by
  unfold m__law_are_numbers p__law_are_numbers
  simp only [okb]
  rw [compR_ok (p := fun x => decide (x < 0)) (h := fun x => x) (fun x _ => rfl) (fun x _ _ => rfl), okb, okb]
  refine Says.iff (P := ¬(¬(ns.length : Int) = ls.length ∨ ∃ x ∈ ns, decide (x < 0) = true) ∧ sumOf ls ns = goal) ?_ ?_
  · refine says_ifR (says_or says_ndec fun _ => says_dec.iff filter_pos) fun h => says_ret ?_
    rw [law_sum_ok g (by
      have := fun z => h (.inl z)
      have := Classical.not_not.mp this
      omega), okb]
    exact says_dec
  · unfold valid
    simp only [not_or, Classical.not_not, decide_eq_true_eq]
    constructor
    · rintro ⟨⟨h1, h2⟩, h3⟩
      exact ⟨by omega, fun n hn => Int.not_lt.mp fun z => h2 ⟨n, hn, z⟩, h3⟩
    · rintro ⟨h1, h2, h3⟩
      exact ⟨⟨by omega, fun ⟨n, hn, z⟩ => by have := h2 n hn; omega⟩, h3⟩
theorem item_says {ls : List Int} {t : Tab} {r : Int} (g : Good ls) (hl : (t.length : Int) = hd ls) (h0 : 0 ≤ r) (h1 : r < hd ls) : Says (m_is_item (ls, t, r, ())) (okItem ls t r) := by
  have ha := g.pos _ g.hd_mem
  unfold m_is_item p_is_item
  simp only [okb]
  rw [unF_bind (at_get h0 (by omega))]
  cases q : at_ t r with
  | none => exact ⟨true, rfl, by unfold okItem; rw [q]; simp⟩
  | some it =>
    simp only [Option.isNone_some, id, optR_some, okb, atR_zero g.hd_get, modR_ok (show 0 < hd ls by omega)]
    refine Says.iff ?_ (show (¬(¬valid ls it.2.1 it.1 ∨ ¬it.1 % hd ls = r) ∧ ((∀ l ∈ ls, ∃ it', at_ t ((it.1 + l) % hd ls) = some it' ∧ it'.1 ≤ it.1 + l) ∧ True)) ↔ okItem ls t r from ?_)
    · refine says_ifR (says_or (says_not (says_are g)) fun _ => says_ndec) fun _ => ?_
      refine says_for (fun l hl => ?_) fun _ => says_true
      rw [at_get (Int.emod_nonneg _ (by omega)) (by rw [‹(t.length : Int) = hd ls›]; exact Int.emod_lt_of_pos _ (by omega))]
      simp only [okb]
      refine (step_chk (P := ¬∃ it', at_ t ((it.1 + l) % hd ls) = some it' ∧ it'.1 ≤ it.1 + l) ?_)
      cases q2 : at_ t ((it.1 + l) % hd ls) with
      | none => exact ⟨true, rfl, by simp⟩
      | some it' =>
        simp only [Option.isNone_some, id, optR_some, okb, orR_f]
        exact says_dec.iff (by simp)
    · unfold okItem
      rw [q]
      simp only [not_or, Classical.not_not, and_true]
      constructor
      · rintro ⟨⟨h1, h2⟩, h3⟩ it' e
        cases e
        exact ⟨h1, h2, h3⟩
      · intro h
        obtain ⟨h1, h2, h3⟩ := h it rfl
        exact ⟨⟨h1, h2⟩, h3⟩
theorem says_pre {ls : List Int} {t : Tab} (g : Good ls) : Says (orR (R.ok !decide ((t.length : Int) = hd ls)) (orR ((atR t 0).bind fun x => R.ok x.isNone) ((((atR t 0).bind fun x => optR (id x)).bind fun x => R.ok x.fst).bind fun x => R.ok !decide (x = 0))))
    (¬((t.length : Int) = hd ls ∧ ∃ it, at_ t 0 = some it ∧ it.1 = 0)) := by
  have ha := g.pos _ g.hd_mem
  by_cases hl : (t.length : Int) = hd ls
  · rw [decide_eq_true hl, show (!true) = false from rfl, orR_f, at_get (by decide) (by omega)]
    simp only [okb]
    cases q : at_ t 0 with
    | none => exact ⟨true, rfl, by simp⟩
    | some it =>
      simp only [Option.isNone_some, id, optR_some, okb, orR_f]
      exact says_ndec.iff (by simp [hl])
  · rw [decide_eq_false hl]
    exact ⟨true, rfl, by simp [hl]⟩
theorem acc_iff {ls : List Int} {t : Tab} : ((¬¬((t.length : Int) = hd ls ∧ ∃ it, at_ t 0 = some it ∧ it.1 = 0)) ∧ ∀ r ∈ rangeL 0 (hd ls).toNat, okItem ls t r) ↔ Acc ls t := by
  constructor
  · rintro ⟨h1, h2⟩
    obtain ⟨h3, h4⟩ := Classical.not_not.mp h1
    exact ⟨h3, h4, fun r a b => h2 r (rangeL_mem.mpr ⟨a, by omega⟩)⟩
  · rintro ⟨h1, h2, h3⟩
    refine ⟨fun z => z ⟨h1, h2⟩, fun r hr => ?_⟩
    rw [rangeL_mem] at hr
    have : 0 ≤ hd ls := by omega
    exact h3 r hr.1 (by omega)
theorem says_judge {ls : List Int} {t : Tab} (g : Good ls) : Says (m_judge_cuts (ls, t, ())) (Acc ls t) := by
  have ha := g.pos _ g.hd_mem
  have hb := g.le _ g.hd_mem
  unfold m_judge_cuts p_judge_cuts
  simp only [okb]
  rw [atR_zero g.hd_get, okb]
  refine (says_ifR (says_pre g) fun h => ?_).iff acc_iff
  have hl := (Classical.not_not.mp h).1
  rw [hl, rng1R_ok (by omega) (by omega), okb, szLR_ok (by rw [rangeL_length]; omega), okb]
  refine says_ret (says_all fun r hr => ?_)
  rw [rangeL_mem] at hr
  exact item_says g hl hr.1 (by omega)
theorem says_told {ls : List Int} {t : Tab} {n : Int} (hl : (t.length : Int) = hd ls) (ha : 1 ≤ hd ls) : Says (m_told_by (t, n, ())) (told ls t n) := by
  unfold m_told_by p_told_by
  simp only [okb]
  rw [hl, modR_ok (by omega), okb, at_get (Int.emod_nonneg _ (by omega)) (by rw [hl]; exact Int.emod_lt_of_pos _ (by omega)), okb]
  refine says_ret ?_
  unfold told
  cases q : at_ t (n % hd ls) with
  | none => exact ⟨false, rfl, by simp⟩
  | some it =>
    simp only [Option.isSome_some, id, optR_some, okb, andR_t]
    exact says_dec.iff (by simp)
theorem says_lawTold {ls : List Int} {t : Tab} {n : Int} (hl : (t.length : Int) = hd ls) (ha : 1 ≤ hd ls) : Says (m__law_told_cut (t, n, ())) (told ls t n) := by
  unfold m__law_told_cut p__law_told_cut
  simp only [okb]
  rw [hl, modR_ok (by omega), okb, at_get (Int.emod_nonneg _ (by omega)) (by rw [hl]; exact Int.emod_lt_of_pos _ (by omega)), okb]
  refine says_ret ?_
  unfold told
  cases q : at_ t (n % hd ls) with
  | none => exact ⟨false, rfl, by simp⟩
  | some it =>
    simp only [Option.isSome_some, id, optR_some, okb, andR_t]
    exact says_dec.iff (by simp)
theorem says_lawTable {ls : List Int} {t : Tab} (g : Good ls) : Says (m__law_accepts_table (ls, t, ())) (Acc ls t) := by
  have ha := g.pos _ g.hd_mem
  have hb := g.le _ g.hd_mem
  unfold m__law_accepts_table p__law_accepts_table
  simp only [okb]
  rw [atR_zero g.hd_get]
  simp only [okb]
  refine Says.iff (says_ifR (says_pre g) (Q := (∀ r ∈ rangeL 0 (hd ls).toNat, okItem ls t r) ∧ True) fun h => ?_) (by rw [and_true]; exact acc_iff)
  have hl := (Classical.not_not.mp h).1
  rw [rng1R_ok (by omega) (by omega), okb]
  refine says_for (fun r hr => ?_) fun _ => says_true
  rw [rangeL_mem] at hr
  rw [at_get hr.1 (by omega)]
  simp only [okb]
  cases q : at_ t r with
  | none => exact ⟨false, rfl, by unfold okItem; rw [q]; simp⟩
  | some it =>
    simp only [Option.isSome_some, if_true, id, optR_some, okb, modR_ok (show 0 < hd ls by omega)]
    refine step_iff (step_if (Q := ∀ l ∈ ls, ∃ it', at_ t ((it.1 + l) % hd ls) = some it' ∧ it'.1 ≤ it.1 + l) (says_or (says_not (says_lawAre g)) fun _ => says_ndec) fun _ => step_for fun l hl' => ?_) ?_
    · rw [at_get (Int.emod_nonneg _ (by omega)) (by rw [hl]; exact Int.emod_lt_of_pos _ (by omega))]
      simp only [okb]
      refine step_chk (P := ¬∃ it', at_ t ((it.1 + l) % hd ls) = some it' ∧ it'.1 ≤ it.1 + l) ?_
      cases q2 : at_ t ((it.1 + l) % hd ls) with
      | none => exact ⟨true, rfl, by simp⟩
      | some it' =>
        simp only [Option.isNone_some, id, optR_some, okb, orR_f]
        exact says_dec.iff (by simp)
    · unfold okItem
      rw [q]
      simp only [not_or, Classical.not_not]
      constructor
      · rintro h z
        obtain ⟨h1, h2, h3⟩ := z it rfl
        exact h ⟨⟨h1, h2⟩, h3⟩
      · rintro h ⟨⟨h1, h2⟩, h3⟩
        refine h fun it' e => ?_
        cases e
        exact ⟨h1, h2, h3⟩
theorem says_jw {ls : List Int} {bar : Int} {p : Option Paper} (g : Good ls) : Says (m_judge_waste (ls, bar, p, ())) (∃ q, p = some q ∧ AccW ls bar q) := by
  have ha := g.pos _ g.hd_mem
  have hb := g.le _ g.hd_mem
  unfold m_judge_waste p_judge_waste
  simp only [okb]
  cases p with
  | none => exact ⟨false, rfl, by simp⟩
  | some q =>
    simp only [Option.isNone_some, Bool.false_eq_true, if_false, id, optR_some, okb, atR_zero g.hd_get]
    refine Says.iff (P := (¬(¬Acc ls q.2.2.1 ∨ q.1 < 0 ∨ ¬valid ls q.2.1 (bar - q.1))) ∧ ¬∃ s ∈ rangeL 0 (min q.1 (hd ls)).toNat, told ls q.2.2.1 (bar - s)) ?_ ?_
    · refine says_ifR (says_or (says_not (says_judge g)) fun _ => says_or says_dec fun _ => says_not (says_are g)) fun h => says_ret (says_not ?_)
      simp only [not_or, Classical.not_not] at h
      rw [rng1R_ok (by omega) (by omega), okb, szLR_ok (by rw [rangeL_length]; omega), okb]
      exact says_any fun s _ => says_told h.1.len ha
    · unfold AccW
      simp only [not_or, Classical.not_not]
      constructor
      · rintro ⟨⟨h1, h2, h3⟩, h4⟩
        exact ⟨q, rfl, h1, by omega, h3, fun s a b z => h4 ⟨s, rangeL_mem.mpr ⟨a, by omega⟩, z⟩⟩
      · rintro ⟨q', e, h1, h2, h3, h4⟩
        cases e
        refine ⟨⟨h1, by omega, h3⟩, fun ⟨s, hs, z⟩ => ?_⟩
        rw [rangeL_mem] at hs
        exact h4 s hs.1 (by omega) z
theorem says_law {ls : List Int} {bar : Int} {p : Option Paper} (g : Good ls) : Says (m__law_accepts (ls, bar, p, ())) (∃ q, p = some q ∧ AccW ls bar q) := by
  have ha := g.pos _ g.hd_mem
  have hb := g.le _ g.hd_mem
  unfold m__law_accepts p__law_accepts
  simp only [okb]
  cases p with
  | none => exact ⟨false, rfl, by simp⟩
  | some q =>
    simp only [Option.isNone_some, Bool.false_eq_true, if_false, id, optR_some, okb, atR_zero g.hd_get]
    refine Says.iff (P := (¬(¬Acc ls q.2.2.1 ∨ q.1 < 0 ∨ ¬valid ls q.2.1 (bar - q.1))) ∧ (∀ s ∈ rangeL 0 (min q.1 (hd ls)).toNat, ¬told ls q.2.2.1 (bar - s)) ∧ True) ?_ ?_
    · refine says_ifR (says_or (says_not (says_lawTable g)) fun _ => says_or says_dec fun _ => says_not (says_lawAre g)) fun h => ?_
      simp only [not_or, Classical.not_not] at h
      rw [rng1R_ok (by omega) (by omega), okb]
      refine says_for (fun s _ => ?_) fun _ => says_true
      exact step_chk ((says_lawTold h.1.len ha).iff Classical.not_not.symm)
    · unfold AccW
      simp only [not_or, Classical.not_not, and_true]
      constructor
      · rintro ⟨⟨h1, h2, h3⟩, h4⟩
        exact ⟨q, rfl, h1, by omega, h3, fun s a b z => h4 s (rangeL_mem.mpr ⟨a, by omega⟩) z⟩
      · rintro ⟨q', e, h1, h2, h3, h4⟩
        cases e
        refine ⟨⟨h1, by omega, h3⟩, fun s hs z => ?_⟩
        rw [rangeL_mem] at hs
        exact h4 s hs.1 (by omega) z
end K73
end
section
set_option maxRecDepth 100000
set_option maxHeartbeats 2000000
namespace K73
open PySem L2 Tr
/-! ### find_cuts -/
def addAt (ns : List Int) (k : Int) : List Int := (enumL ns).map fun x => x.2.1 + ofB (decide (x.1 = k))
theorem with_one_ok {ns : List Int} {k : Int} : m_with_one (ns, k, ()) = .ok (addAt ns k) := by
  unfold m_with_one p_with_one
  simp only [okb]
  rw [mapR_ok (xs := enumL ns) (h := fun x => x.2.1 + ofB (decide (x.1 = k))) fun x _ => rfl]
  rfl
theorem addAt_at {ns : List Int} {k : Int} (h0 : 0 ≤ k) (h : k < ns.length) : addAt ns k = ns.set k.toNat (ns.getD k.toNat 0 + 1) := by
  refine List.ext_getElem? fun i => ?_
  unfold addAt
  rw [List.getElem?_map]
  by_cases hi : i < ns.length
  · have e : (enumL ns)[i]? = some ((i : Int), ns[i], ()) := by
      cases q : (enumL ns)[i]? with
      | none =>
        rw [List.getElem?_eq_none_iff, enumL_length] at q
        omega
      | some y =>
        obtain ⟨x, h1, h2⟩ := enumL_at q
        rw [List.getElem?_eq_getElem hi] at h1
        cases h1
        rw [h2]
    rw [e]
    by_cases hk : k.toNat = i
    · subst hk
      rw [List.getElem?_set_self hi]
      simp [ofB, List.getD_eq_getElem?_getD, List.getElem?_eq_getElem hi, show ((k.toNat : Nat) : Int) = k by omega]
    · rw [List.getElem?_set_ne hk, List.getElem?_eq_getElem hi]
      simp [ofB, show ¬((i : Int) = k) by omega]
  · rw [List.getElem?_eq_none (by rw [enumL_length]; omega), List.getElem?_eq_none (by simp; omega)]
    rfl
theorem sumOf_set : ∀ (ls ns : List Int) (j : Nat), ns.length = ls.length → j < ls.length → sumOf ls (ns.set j (ns.getD j 0 + 1)) = sumOf ls ns + ls.getD j 0
  | [], _, _, _, h => absurd h (by simp)
  | _ :: _, [], _, h, _ => absurd h (by simp)
  | l :: ls, n :: ns, 0, _, _ => by
    rw [List.set_cons_zero, sumOf_cons, sumOf_cons]
    show l * (n + 1) + _ = _ + l
    rw [Int.mul_add]
    omega
  | l :: ls, n :: ns, j + 1, h, hj => by
    rw [List.set_cons_succ, sumOf_cons, sumOf_cons]
    have := sumOf_set ls ns j (by simpa using h) (by simpa using hj)
    show l * n + sumOf ls (ns.set j (ns.getD j 0 + 1)) = l * n + sumOf ls ns + ls.getD j 0
    rw [this]
    omega
theorem valid_add {ls ns : List Int} {d k : Int} (v : valid ls ns d) (h0 : 0 ≤ k) (h : k < ls.length) : valid ls (addAt ns k) (d + ls.getD k.toNat 0) := by
  obtain ⟨h1, h2, h3⟩ := v
  rw [addAt_at h0 (by omega)]
  refine ⟨by simp [h1], fun n hn => ?_, ?_⟩
  · rcases List.mem_or_eq_of_mem_set hn with hn | e
    · exact h2 n hn
    · have := h2 _ (getD_mem (xs := ns) 0 h0 (by omega))
      omega
  · rw [sumOf_set ls ns _ h1 (by omega), h3]
theorem at_set {t : Tab} {i r : Int} {x : Option Item} (h0 : 0 ≤ i) (h : i < t.length) (hr : 0 ≤ r) : at_ (t.set i.toNat x) r = if r = i then x else at_ t r := by
  unfold at_
  rw [List.getD_eq_getElem?_getD, List.getD_eq_getElem?_getD]
  by_cases e : r = i
  · subst e
    rw [List.getElem?_set_self (by omega), if_pos rfl]
    rfl
  · rw [List.getElem?_set_ne (by omega), if_neg e]
/-- the tables while the item (d, ns) is spread: i lengths are done -/
structure RI (ls : List Int) (t : Tab) (d : Int) (i : Nat) (t' : Tab) : Prop where
  len : (t'.length : Int) = hd ls
  ent : ∀ r, 0 ≤ r → r < hd ls → at_ t' r = at_ t r ∨ ∃ it, ∃ l ∈ ls, at_ t' r = some it ∧ it.1 = d + l ∧ valid ls it.2.1 it.1 ∧ it.1 % hd ls = r ∧ ∀ it0, at_ t r = some it0 → it.1 < it0.1
  done : ∀ (j : Nat) (l : Int), j < i → ls[j]? = some l → ∃ it, at_ t' ((d + l) % hd ls) = some it ∧ it.1 ≤ d + l
theorem relax {ls : List Int} {t t' : Tab} {d : Int} {ns : List Int} {i : Nat} {x : Int × Int × Unit} (g : Good ls) (v : valid ls ns d) (hx : (enumL ls)[i]? = some x) (I : RI ls t d i t') :
    ∃ s', ((modR (d + x.2.1) (hd ls)).bind fun v11 =>
      (orR ((atR t' v11).bind fun x => R.ok x.isNone) ((((atR t' v11).bind fun x => optR x).bind fun x => R.ok x.1).bind fun y => R.ok (decide (d + x.2.1 < y)))).bind fun c =>
        if c = true then
          ((((m_with_one (ns, x.1, ())).bind fun x => R.ok (x, ())).bind fun y => R.ok (d + x.2.1, y)).bind fun x => R.ok (some x)).bind fun x => (setR t' v11 x).bind fun v12 => (R.ok (Fl.nx (v12, ())) : R (Fl (Tab × Unit) (Tab × Unit) (List (Option Item))))
        else R.ok (Fl.nx (t', ()))) = .ok (.nx s') ∧ RI ls t d (i + 1) s'.1 := by
  have ha := g.pos _ g.hd_mem
  obtain ⟨l, hl, rfl⟩ := enumL_at hx
  have hi : i < ls.length := (List.getElem?_eq_some_iff.mp hl).1
  have hlm := List.mem_of_getElem? hl
  have hm0 := Int.emod_nonneg (d + l) (show hd ls ≠ 0 by omega)
  have hm1 := Int.emod_lt_of_pos (d + l) (show 0 < hd ls by omega)
  simp only [with_one_ok, okb]
  rw [modR_ok (by omega), okb, at_get hm0 (by rw [I.len]; exact hm1)]
  simp only [okb]
  have hv : valid ls (addAt ns (i : Int)) (d + l) := by
    have := valid_add v (k := (i : Int)) (by omega) (by omega)
    rw [Int.toNat_natCast, List.getD_eq_getElem?_getD, hl] at this
    exact this
  -- the table that is written
  have upd : (∀ it', at_ t' ((d + l) % hd ls) = some it' → d + l < it'.1) → RI ls t d (i + 1) (t'.set ((d + l) % hd ls).toNat (some (d + l, addAt ns (i : Int), ()))) := fun hlt => by
    refine ⟨by rw [List.length_set]; exact I.len, fun r r0 r1 => ?_, fun j l' hj hl' => ?_⟩
    · rw [at_set hm0 (by rw [I.len]; exact hm1) r0]
      by_cases e : r = (d + l) % hd ls
      · rw [if_pos e]
        refine .inr ⟨_, l, hlm, rfl, rfl, hv, e.symm, fun it0 h0 => ?_⟩
        show d + l < it0.1
        rcases I.ent r r0 r1 with h | ⟨it, l2, _, h1, _, _, _, h2⟩
        · exact hlt it0 (by rw [← e, h, h0])
        · have := hlt it (by rw [← e, h1])
          have := h2 it0 h0
          omega
      · rw [if_neg e]
        exact I.ent r r0 r1
    · have q0 := Int.emod_nonneg (d + l') (show hd ls ≠ 0 by omega)
      rw [at_set hm0 (by rw [I.len]; exact hm1) q0]
      by_cases e : (d + l') % hd ls = (d + l) % hd ls
      · rw [if_pos e]
        refine ⟨_, rfl, ?_⟩
        show d + l ≤ d + l'
        by_cases ej : j = i
        · subst ej
          rw [hl] at hl'
          cases hl'
          exact Int.le_refl _
        · obtain ⟨it, h1, h2⟩ := I.done j l' (by omega) hl'
          have := hlt it (by rw [← e]; exact h1)
          omega
      · rw [if_neg e]
        by_cases ej : j = i
        · subst ej
          rw [hl] at hl'
          cases hl'
          exact absurd rfl e
        · exact I.done j l' (by omega) hl'
  cases q : at_ t' ((d + l) % hd ls) with
  | none =>
    simp only [Option.isNone_none, orR_t, okb, if_true, setR_ok hm0 (show (d + l) % hd ls < t'.length by rw [I.len]; exact hm1)]
    exact ⟨_, rfl, upd fun it' e => by rw [q] at e; cases e⟩
  | some it' =>
    simp only [Option.isNone_some, orR_f, id, optR_some, okb]
    by_cases c : d + l < it'.1
    · rw [decide_eq_true c, if_pos rfl, setR_ok hm0 (by rw [I.len]; exact hm1), okb]
      exact ⟨_, rfl, upd fun it e => by rw [q] at e; cases e; exact c⟩
    · rw [decide_eq_false c, if_neg Bool.false_ne_true]
      refine ⟨_, rfl, I.len, I.ent, fun j l' hj hl' => ?_⟩
      by_cases ej : j = i
      · subst ej
        rw [hl] at hl'
        cases hl'
        exact ⟨it', q, by omega⟩
      · exact I.done j l' (by omega) hl'
/-- settled -/
def ds (s : List (Key × Bool)) (r : Int) : Prop := (getD s (Sum.inl r)).isSome = true
theorem ds_put {s : List (Key × Bool)} {k r : Int} : ds (putD s (Sum.inl k) true) r ↔ r = k ∨ ds s r := by
  unfold ds
  rw [getD_put]
  by_cases e : r = k
  · subst e
    simp
  · rw [if_neg (fun z => e (Sum.inl.inj z))]
    simp [e]
/-- where to go on -/
def Cur (ls : List Int) (t : Tab) (s : List (Key × Bool)) : Option Int → Prop
  | none => ∀ r, 0 ≤ r → r < hd ls → at_ t r ≠ none → ds s r
  | some k => 0 ≤ k ∧ k < hd ls ∧ ¬ds s k ∧ ∃ it, at_ t k = some it ∧ ∀ q, 0 ≤ q → q < hd ls → ¬ds s q → ∀ jt, at_ t q = some jt → it.1 ≤ jt.1
theorem nearest_ok {ls : List Int} {t : Tab} {s : List (Key × Bool)} (g : Good ls) (hl : (t.length : Int) = hd ls) : ∃ o, m_nearest (t, s, ()) = .ok o ∧ Cur ls t s o := by
  have ha := g.pos _ g.hd_mem
  have hb := g.le _ g.hd_mem
  unfold m_nearest p_nearest
  simp only [okb]
  rw [hl, rng1R_ok (by omega) (by omega), okb, szLR_ok (by rw [rangeL_length]; omega), okb]
  have key : ∀ k ∈ rangeL 0 (hd ls).toNat, 0 ≤ k ∧ k < hd ls := fun k hk => by
    rw [rangeL_mem] at hk
    omega
  rw [compR_ok (p := fun k => (at_ t k).isSome && !(getD s (Sum.inl k)).isSome) (h := fun k => k) (fun k hk => by
    obtain ⟨h0, h1⟩ := key k hk
    rw [at_get h0 (by omega), okb, andR_ok]) fun _ _ _ => rfl]
  simp only [okb]
  have mem : ∀ k, k ∈ ((rangeL 0 (hd ls).toNat).filter fun k => (at_ t k).isSome && !(getD s (Sum.inl k)).isSome).map (fun k => k) ↔ (0 ≤ k ∧ k < hd ls) ∧ at_ t k ≠ none ∧ ¬ds s k := fun k => by
    rw [List.map_id', List.mem_filter, Bool.and_eq_true, rangeL_mem]
    unfold ds
    constructor
    · rintro ⟨h1, h2, h3⟩
      refine ⟨by omega, fun z => ?_, fun z => ?_⟩
      · rw [z] at h2
        cases h2
      · rw [z] at h3
        cases h3
    · rintro ⟨h1, h2, h3⟩
      refine ⟨by omega, ?_, by simpa using h3⟩
      cases q : at_ t k with
      | none => exact absurd q h2
      | some _ => rfl
  generalize ((rangeL 0 (hd ls).toNat).filter fun k => (at_ t k).isSome && !(getD s (Sum.inl k)).isSome).map (fun k => k) = xs at mem
  cases xs with
  | nil =>
    refine ⟨none, rfl, fun r h0 h1 h2 => Classical.byContradiction fun h3 => ?_⟩
    exact absurd ((mem r).mpr ⟨⟨h0, h1⟩, h2, h3⟩) (by simp)
  | cons x xr =>
    obtain ⟨y, hy, e, hmin⟩ := minKR_ok (xs := x :: xr) (kf := fun x2 => (((atR t x2).bind fun x => optR (id x)).bind fun x => R.ok x.1)) (key := fun k => ((at_ t k).getD (0, [], ())).1) (by simp) fun k hk => by
      obtain ⟨⟨h0, h1⟩, h2, _⟩ := (mem k).mp hk
      rw [at_get h0 (by omega), okb]
      cases q : at_ t k with
      | none => exact absurd q h2
      | some it => rfl
    obtain ⟨⟨h0, h1⟩, h2, h3⟩ := (mem y).mp hy
    cases q : at_ t y with
    | none => exact absurd q h2
    | some it =>
      refine ⟨some y, ?_, h0, h1, h3, it, q, fun r r0 r1 r2 jt hj => ?_⟩
      · show unF (((minKR (fun x y => decide (x < y)) (fun x2 => (((atR t x2).bind fun x => optR (id x)).bind fun x => R.ok x.1)) (x :: xr)).bind fun x => R.ok (some x)).bind fun y => R.ok (Fl.rt y)) = _
        rw [e]
        rfl
      · have := hmin r ((mem r).mpr ⟨⟨r0, r1⟩, by rw [hj]; simp, r2⟩)
        rw [q, hj] at this
        exact this
/-- not yet settled -/
def cnt (ls : List Int) (s : List (Key × Bool)) : Nat := ((rangeL 0 (hd ls).toNat).filter fun r => !(getD s (Sum.inl r)).isSome).length
theorem cnt_put {ls : List Int} {s : List (Key × Bool)} {k : Int} (h0 : 0 ≤ k) (h1 : k < hd ls) (h : ¬ds s k) : cnt ls (putD s (Sum.inl k) true) + 1 ≤ cnt ls s := by
  refine filter_lt (k := k) (fun r _ hr => ?_) (rangeL_mem.mpr ⟨h0, by omega⟩) (by unfold ds at h; simpa using h) ?_
  · rw [getD_put] at hr
    split at hr
    · cases hr
    · exact hr
  · rw [getD_put, if_pos rfl]
    rfl
structure WI (ls : List Int) (M : Int) (t : Tab) (s : List (Key × Bool)) (o : Option Int) : Prop where
  len : (t.length : Int) = hd ls
  zero : ∃ it, at_ t 0 = some it ∧ it.1 = 0
  ent : ∀ r, 0 ≤ r → r < hd ls → ∀ it, at_ t r = some it → valid ls it.2.1 it.1 ∧ it.1 % hd ls = r ∧ it.1 ≤ (hd ls - cnt ls s) * M
  set : ∀ r, 0 ≤ r → r < hd ls → ds s r → ∃ it, at_ t r = some it ∧ ∀ l ∈ ls, ∃ it', at_ t ((it.1 + l) % hd ls) = some it' ∧ it'.1 ≤ it.1 + l
  ord : ∀ r q, 0 ≤ r → r < hd ls → 0 ≤ q → q < hd ls → ds s r → ¬ds s q → ∀ it jt, at_ t r = some it → at_ t q = some jt → it.1 ≤ jt.1
  cur : Cur ls t s o
  sz : s.length + cnt ls s ≤ (hd ls).toNat
/-- one turn -/
theorem turn {ls : List Int} {M : Int} {t t' : Tab} {s : List (Key × Bool)} {k : Int} {it0 : Item} {o' : Option Int} (g : Good ls) (hM : ∀ l ∈ ls, l ≤ M) (W : WI ls M t s (some k)) (e0 : at_ t k = some it0) (I : RI ls t it0.1 ls.length t') (C : Cur ls t' (putD s (Sum.inl k) true) o') : WI ls M t' (putD s (Sum.inl k) true) o' := by
  have ha := g.pos _ g.hd_mem
  obtain ⟨k0, k1, k2, it, k3, k4⟩ := W.cur
  rw [e0] at k3
  cases k3
  have hMp : 0 ≤ M := by
    have := hM _ g.hd_mem
    omega
  have hcnt := cnt_put k0 k1 k2
  have hcl : ((cnt ls (putD s (Sum.inl k) true) : Nat) : Int) + 1 ≤ (cnt ls s : Nat) := by omega
  have hmono : (hd ls - (cnt ls s : Nat)) * M + M ≤ (hd ls - (cnt ls (putD s (Sum.inl k) true) : Nat)) * M := by
    have h1 : (hd ls - (cnt ls s : Nat)) * M + M = (hd ls - (cnt ls s : Nat) + 1) * M := by rw [Int.add_mul, Int.one_mul]
    rw [h1]
    exact Int.mul_le_mul_of_nonneg_right (by omega) hMp
  obtain ⟨v0, m0, b0⟩ := W.ent k k0 k1 it0 e0
  have d0 := rep_nn g.pos v0.rep
  -- settled places, and k, keep their item
  have kept : ∀ r, 0 ≤ r → r < hd ls → (r = k ∨ ds s r) → at_ t' r = at_ t r := fun r r0 r1 hr => by
    rcases I.ent r r0 r1 with h | ⟨it, l, hl, _, h2, _, _, h5⟩
    · exact h
    · exfalso
      have hp := g.pos _ hl
      rcases hr with e | hr
      · subst e
        have := h5 it0 e0
        omega
      · obtain ⟨it1, q1, _⟩ := W.set r r0 r1 hr
        have a1 := h5 it1 q1
        have a2 := W.ord r k r0 r1 k0 k1 hr k2 it1 it0 q1 e0
        omega
  have less : ∀ r, 0 ≤ r → r < hd ls → ∀ it, at_ t r = some it → ∃ it', at_ t' r = some it' ∧ it'.1 ≤ it.1 := fun r r0 r1 it e => by
    rcases I.ent r r0 r1 with h | ⟨it', _, _, h1, _, _, _, h5⟩
    · exact ⟨it, by rw [h, e], Int.le_refl _⟩
    · exact ⟨it', h1, by have := h5 it e; omega⟩
  refine ⟨I.len, ?_, fun r r0 r1 it e => ?_, fun r r0 r1 hr => ?_, fun r q r0 r1 q0 q1 hr hq it jt e1 e2 => ?_, C, ?_⟩
  · obtain ⟨it, h1, h2⟩ := W.zero
    rcases I.ent 0 (Int.le_refl _) (by omega) with h | ⟨it', l, hl, h3, h4, _, _, h5⟩
    · exact ⟨it, by rw [h, h1], h2⟩
    · have := h5 it h1
      have := g.pos _ hl
      omega
  · rcases I.ent r r0 r1 with h | ⟨it', l, hl, h3, h4, h5, h6, _⟩
    · obtain ⟨q1, q2, q3⟩ := W.ent r r0 r1 it (by rw [← h, e])
      exact ⟨q1, q2, by omega⟩
    · rw [h3] at e
      cases e
      have := hM _ hl
      exact ⟨h5, h6, by omega⟩
  · rw [ds_put] at hr
    rcases hr with e | hr
    · subst e
      refine ⟨it0, by rw [kept r r0 r1 (.inl rfl), e0], fun l hl => ?_⟩
      obtain ⟨j, hj⟩ := List.getElem?_of_mem hl
      exact I.done j l (List.getElem?_eq_some_iff.mp hj).1 hj
    · obtain ⟨it, h1, h2⟩ := W.set r r0 r1 hr
      refine ⟨it, by rw [kept r r0 r1 (.inr hr), h1], fun l hl => ?_⟩
      obtain ⟨it', h3, h4⟩ := h2 l hl
      obtain ⟨it'', h5, h6⟩ := less _ (Int.emod_nonneg _ (by omega)) (Int.emod_lt_of_pos _ (by omega)) it' h3
      exact ⟨it'', h5, by omega⟩
  · rw [ds_put] at hr hq
    have hq2 : ¬ds s q := fun z => hq (.inr z)
    rw [kept r r0 r1 hr] at e1
    have hd1 : it.1 ≤ it0.1 := by
      rcases hr with e | hr
      · subst e
        rw [e0] at e1
        cases e1
        exact Int.le_refl _
      · exact W.ord r k r0 r1 k0 k1 hr k2 it it0 e1 e0
    rcases I.ent q q0 q1 with h | ⟨it', l, hl, h3, h4, _, _, _⟩
    · have := k4 q q0 q1 hq2 jt (by rw [← h, e2])
      omega
    · rw [h3] at e2
      cases e2
      have := g.pos _ hl
      omega
  · have := putD_len (xs := s) (k := Sum.inl k) (x := true)
    have := W.sz
    omega
theorem find_cuts_ok {ls : List Int} {M : Int} (g : Good ls) (hM : ∀ l ∈ ls, l ≤ M) : ∃ t, m_find_cuts (ls, ()) = .ok t ∧ Acc ls t ∧ ∀ r it, 0 ≤ r → r < hd ls → at_ t r = some it → it.1 ≤ hd ls * M := by
  have ha := g.pos _ g.hd_mem
  have hb := g.le _ g.hd_mem
  have hn := g.len
  unfold m_find_cuts p_find_cuts
  simp only [okb, atR_zero g.hd_get]
  rw [szR_ok (by simp), okb, okb, repR_ok (by omega) (by omega) (by simp; omega), okb, szR_ok (by simp), okb, okb, repR_ok (by omega) (by omega) (by simp; omega)]
  simp only [okb, repL_one]
  rw [setR_ok (by decide) (by simp; omega), okb]
  have hMp : 0 ≤ M := by
    have := hM _ g.hd_mem
    omega
  have len0 : (((List.replicate (hd ls).toNat (none : Option Item)).length : Nat) : Int) = hd ls := by
    rw [List.length_replicate]
    omega
  have at0 : ∀ r, 0 ≤ r → at_ ((List.replicate (hd ls).toNat (none : Option Item)).set (0 : Int).toNat (some (0, List.replicate (ls.length : Int).toNat 0, ()))) r = if r = 0 then some (0, List.replicate (ls.length : Int).toNat 0, ()) else none := fun r r0 => by
    rw [at_set (by decide) (by rw [len0]; omega) r0]
    split
    · rfl
    · unfold at_
      rw [List.getD_eq_getElem?_getD, List.getElem?_replicate]
      split <;> rfl
  have v0 : valid ls (List.replicate (ls.length : Int).toNat 0) 0 := by
    refine ⟨by simp, fun n hn => by rw [(List.mem_replicate.mp hn).2]; exact Int.le_refl _, ?_⟩
    rw [Int.toNat_natCast]
    have : ∀ xs : List Int, sumOf xs (List.replicate xs.length 0) = 0 := fun xs => by
      induction xs with
      | nil => rfl
      | cons x xs ih => rw [List.length_cons, List.replicate_succ, sumOf_cons, ih]; omega
    exact this ls
  have cnt0 : cnt ls [] = (hd ls).toNat := by
    unfold cnt
    rw [show ((rangeL 0 (hd ls).toNat).filter fun r => !(getD ([] : List (Key × Bool)) (Sum.inl r)).isSome) = rangeL 0 (hd ls).toNat from List.filter_eq_self.mpr fun _ _ => rfl, rangeL_length]
  have W0 : WI ls M ((List.replicate (hd ls).toNat (none : Option Item)).set (0 : Int).toNat (some (0, List.replicate (ls.length : Int).toNat 0, ()))) [] (some 0) := by
    refine ⟨by rw [List.length_set]; exact len0, ⟨_, by rw [at0 0 (by decide), if_pos rfl], rfl⟩, fun r r0 r1 it e => ?_, fun r _ _ h => absurd h (by unfold ds getD; simp), fun r q _ _ _ _ h => absurd h (by unfold ds getD; simp), ⟨by decide, by omega, by unfold ds getD; simp, _, by rw [at0 0 (by decide), if_pos rfl], fun q q0 _ _ jt e => ?_⟩, by rw [cnt0]; simp⟩
    · rw [at0 r r0] at e
      split at e
      · rename_i h
        cases e
        refine ⟨v0, by rw [h]; exact Int.zero_emod _, ?_⟩
        rw [cnt0]
        have : (hd ls - ((hd ls).toNat : Nat)) = 0 := by omega
        rw [this, Int.zero_mul]
        exact Int.le_refl _
      · cases e
    · rw [at0 q q0] at e
      split at e
      · cases e
        exact Int.le_refl _
      · cases e
  refine while_goal (fun (s : Tab × List (Key × Bool) × Option Int × Unit) => s.2.2.1.isSome) (fun s => WI ls M s.1 s.2.1 s.2.2.1) (fun s => cnt ls s.2.1) (fun m => ∃ t, unF m = R.ok t ∧ Acc ls t ∧ ∀ r it, 0 ≤ r → r < hd ls → at_ t r = some it → it.1 ≤ hd ls * M) (fun s _ => rfl) W0 (by
    show cnt ls [] < 1000
    rw [cnt0]
    omega) (fun s W c => ?_) (fun s W c => ?_)
  rotate_left
  · obtain ⟨t, s, o, u⟩ := s
    have W : WI ls M t s o := W
    rw [contR_inl]
    refine ⟨t, rfl, ⟨W.len, W.zero, fun r r0 r1 it h => ?_⟩, fun r it r0 r1 h => ?_⟩
    · obtain ⟨h1, h2, _⟩ := W.ent r r0 r1 it h
      have hc : Cur ls t s o := W.cur
      cases o with
      | some k => cases c
      | none =>
        obtain ⟨it', h3, h4⟩ := W.set r r0 r1 (hc r r0 r1 (by rw [h]; simp))
        rw [h] at h3
        cases h3
        exact ⟨h1, h2, h4⟩
    · obtain ⟨_, _, h3⟩ := W.ent r r0 r1 it h
      have : (hd ls - (cnt ls s : Nat)) * M ≤ hd ls * M := Int.mul_le_mul_of_nonneg_right (by omega) hMp
      exact Int.le_trans h3 this
  · obtain ⟨t, s, o, u⟩ := s
    have W : WI ls M t s o := W
    cases o with
    | none => cases c
    | some k =>
      obtain ⟨k0, k1, k2, it0, e0, _⟩ := W.cur
      have hsz := W.sz
      simp only [id, optR_some, okb]
      rw [putR_ok (by omega), okb, at_get k0 (by rw [W.len]; exact k1)]
      simp only [okb, e0, optR_some]
      obtain ⟨s1, e1, I⟩ := forR_inv0 (fun i (s' : Tab × Unit) => RI ls t it0.1 i s'.1) (xs := enumL ls) (s := (t, ())) ⟨W.len, fun r _ _ => .inl rfl, fun j l h => absurd h (Nat.not_lt_zero _)⟩ fun i s' x hx I => relax g (W.ent k k0 k1 it0 e0).1 hx I
      rw [e1, okb, contR_inl]
      rw [enumL_length] at I
      obtain ⟨o', e2, C⟩ := nearest_ok (s := putD s (Sum.inl k) true) g I.len
      rw [e2, okb]
      exact ⟨_, rfl, turn g hM W e0 I C, by have := cnt_put k0 k1 k2; show cnt ls (putD s (Sum.inl k) true) < cnt ls s; omega⟩
end K73
end
section
set_option maxRecDepth 100000
set_option maxHeartbeats 2000000
namespace K73
open PySem L2 Tr
theorem same_int (a b : Int) : m__law_same_int (a, b, ()) = .ok (decide (a = b)) := by
  unfold m__law_same_int p__law_same_int
  simp only [okb, notR_ok, Bool.not_false, andR_t]
  rfl
theorem same_bool (a b : Bool) : m__law_same_bool (a, b, ()) = .ok (decide (a = b)) := by
  unfold m__law_same_bool p__law_same_bool
  simp only [okb, andR_t]
  rfl
theorem cell_ok (ns : List Int) {k : Int} (hk : 0 ≤ k) : Okd (m__law_cell (ns, k, ())) fun _ => True := by
  unfold m__law_cell p__law_cell
  simp only [okb]
  by_cases h : k < ns.length
  · rw [decide_eq_true h, if_pos rfl]
    obtain ⟨x, e, _⟩ := okd_at hk h
    rw [e]
    exact ⟨x, rfl, trivial⟩
  · rw [decide_eq_false h, if_neg Bool.false_ne_true]
    exact ⟨0, rfl, trivial⟩
def Num (n lim : Int) (xs : List Int) : Prop := (xs.length : Int) = n ∧ ∀ x ∈ xs, 0 ≤ x ∧ x < lim
theorem numbers_ok {c n lim : Int} (h0 : 0 ≤ n) (hn : n ≤ 100) (hl : 0 < lim) (hl2 : lim < 2 ^ 64) : Okd (m__law_numbers (c, n, lim, ())) (Num n lim) := by
  unfold m__law_numbers p__law_numbers
  simp only [okb]
  rw [szR_ok (by simp), okb, okb, show powR 10 18 = R.ok (10 ^ 18) by
    unfold powR powOk
    rfl, okb, okb]
  rw [rng1R_ok (by omega) (by omega), okb]
  by_cases hc : (10 : Int) ^ 18 ≤ c
  · rw [decide_eq_true hc, if_pos rfl]
    obtain ⟨s, e, h1, h2⟩ := forR_inv0 (fun i (s : Int × List Int × Unit) => s.2.1.length = i ∧ ∀ x ∈ s.2.1, 0 ≤ x ∧ x < lim) (xs := rangeL 0 n.toNat) (s := (c, ([] : List Int), ()))
      (step := fun s3 x2 => (modR s3.1 lim).bind fun x => (appR s3.2.1 x).bind fun v4 => (fdivR s3.1 lim).bind fun v5 => (R.ok (Fl.nx (v5, v4, ())) : R (Fl (Int × List Int × Unit) (Int × List Int × Unit) (List Int))))
      ⟨rfl, fun x hx => absurd hx (by simp)⟩ fun i s x hx ⟨h1, h2⟩ => by
        have hi := (List.getElem?_eq_some_iff.mp hx).1
        rw [rangeL_length] at hi
        rw [modR_ok hl, okb, appR_ok (by omega), okb, fdivR_ok hl hl2, okb]
        refine ⟨_, rfl, by simp [h1], fun y hy => ?_⟩
        rcases List.mem_append.mp hy with hy | hy
        · exact h2 y hy
        · rw [List.mem_singleton.mp hy]
          exact ⟨Int.emod_nonneg _ (by omega), Int.emod_lt_of_pos _ hl⟩
    rw [e]
    rw [rangeL_length] at h1
    exact ⟨s.2.1, rfl, by omega, h2⟩
  · rw [decide_eq_false hc, if_neg Bool.false_ne_true]
    obtain ⟨s, e, h1, h2⟩ := forR_inv0 (fun i (s : List Int × Unit) => s.1.length = i ∧ ∀ x ∈ s.1, 0 ≤ x ∧ x < lim) (xs := rangeL 0 n.toNat) (s := (([] : List Int), ()))
      (step := fun s8 x7 => ((((mulR c 48271).bind fun x => (mulR x7 69621).bind fun y => R.ok (x + y)).bind fun x => R.ok (x + 7)).bind fun x => modR x 2147483647).bind fun v9 =>
                        (((((mulR v9 v9).bind fun x => (mulR v9 40692).bind fun y => R.ok (x + y)).bind fun x => (mulR x7 16807).bind fun y => R.ok (x + y)).bind fun x => R.ok (x + 11)).bind fun x => modR x 2147483399).bind fun v10 =>
                          ((fdivR v10 32).bind fun x => modR x lim).bind fun x => (appR s8.1 x).bind fun v11 => (R.ok (Fl.nx (v11, ())) : R (Fl (List Int × Unit) (List Int × Unit) (List Int))))
      ⟨rfl, fun x hx => absurd hx (by simp)⟩ fun i s x hx ⟨h1, h2⟩ => by
        have hi := (List.getElem?_eq_some_iff.mp hx).1
        rw [rangeL_length] at hi
        simp only [mulR_okR (j := 48271) (by decide) (by decide), mulR_okR (j := 69621) (by decide) (by decide), mulR_okR (j := 40692) (by decide) (by decide), mulR_okR (j := 16807) (by decide) (by decide), okb]
        rw [modR_ok (by decide), okb]
        have m1 := Int.emod_nonneg (c * 48271 + x * 69621 + 7) (show (2147483647 : Int) ≠ 0 by decide)
        have m2 := Int.emod_lt_of_pos (c * 48271 + x * 69621 + 7) (show (0 : Int) < 2147483647 by decide)
        rw [mulR_okR (by omega) (by omega)]
        simp only [okb]
        rw [modR_ok (by decide), okb, fdivR_ok (by decide) (by decide), okb, modR_ok hl, okb, appR_ok (by omega), okb]
        refine ⟨_, rfl, by simp [h1], fun y hy => ?_⟩
        rcases List.mem_append.mp hy with hy | hy
        · exact h2 y hy
        · rw [List.mem_singleton.mp hy]
          exact ⟨Int.emod_nonneg _ (by omega), Int.emod_lt_of_pos _ hl⟩
    rw [okb, e]
    rw [rangeL_length] at h1
    exact ⟨s.1, rfl, by omega, h2⟩
theorem Num.at {n lim : Int} {xs : List Int} (h : Num n lim xs) {i : Int} (h0 : 0 ≤ i) (h1 : i < n) : Okd (atR xs i) fun x => 0 ≤ x ∧ x < lim := (okd_at h0 (by rw [h.1]; exact h1)).imp fun x hx => h.2 x hx
theorem lengths_ok (ns : List Int) : Okd (m__law_lengths (ns, 0, ())) fun ls => Good ls ∧ ls.Pairwise (· ≤ ·) := by
  unfold m__law_lengths p__law_lengths
  simp only [okb]
  obtain ⟨c, ec, _⟩ := cell_ok ns (k := 0) (by decide)
  obtain ⟨v1, e1, N⟩ := numbers_ok (c := c) (n := 12) (lim := 5040) (by decide) (by decide) (by decide) (by decide)
  rw [ec]
  simp only [okb]
  rw [e1]
  simp only [okb]
  rw [szR_ok (by simp)]
  simp only [okb]
  obtain ⟨d0, f0, g0⟩ := N.at (i := 0) (by decide) (by decide)
  obtain ⟨d1, f1, g1⟩ := N.at (i := 1) (by decide) (by decide)
  obtain ⟨d11, f11, g11⟩ := N.at (i := 11) (by decide) (by decide)
  rw [f0, okb, modR_ok (by decide), okb]
  have hm : Okd (atR [(7 : Int), 20, 60] (d0 % 3)) fun m => 1 ≤ m ∧ m ≤ 60 := by
    refine (okd_at (Int.emod_nonneg _ (by decide)) (by have := Int.emod_lt_of_pos d0 (show (0 : Int) < 3 by decide); simp; omega)).imp fun x hx => ?_
    simp at hx
    omega
  obtain ⟨m, fm, gm⟩ := hm
  rw [fm]
  simp only [okb]
  rw [szR_ok (by simp)]
  simp only [okb, f1, f11]
  rw [modR_ok (by decide), okb]
  have r0 := Int.emod_nonneg d1 (show (8 : Int) ≠ 0 by decide)
  have r1 := Int.emod_lt_of_pos d1 (show (0 : Int) < 8 by decide)
  rw [okb, rng1R_ok (by omega) (by omega), okb]
  obtain ⟨s, e, h1, h2, h3⟩ := forR_inv0 (fun i (s : List Int × Unit) => s.1.length ≤ i ∧ (0 < i → s.1 ≠ []) ∧ ∀ x ∈ s.1, 1 ≤ x ∧ x ≤ 60) (xs := rangeL 0 (1 + d1 % 8).toNat) (s := (([] : List Int), ()))
    (step := fun s5 x4 => (((atR v1 (2 + x4)).bind fun x => modR x m).bind fun y => R.ok (1 + y)).bind fun v6 =>
                      ((modR d11 3).bind fun x => R.ok (decide (x = 0))).bind fun t =>
                        (if t = true then ((((mulR 2 v6).bind fun x => R.ok (x, ())).bind fun y => R.ok (60, y)).bind fun x => R.ok (min x.1 x.2.1)).bind fun v7 => R.ok (Fl.nx (v7, ()))
                            else R.ok (Fl.nx (v6, ()))).bind
                          (joinR fun s8 => if (!s5.1.any fun y => y == s8.1) = true then (appR s5.1 s8.1).bind fun v9 => R.ok (Fl.nx (v9, ())) else (R.ok (Fl.nx (s5.1, ())) : R (Fl (List Int × Unit) (List Int × Unit) (List Int)))))
    ⟨Nat.le_refl _, fun h => absurd h (Nat.lt_irrefl _), fun x hx => absurd hx (by simp)⟩ fun i s x hx ⟨h1, h2, h3⟩ => by
      have hi := (List.getElem?_eq_some_iff.mp hx).1
      rw [rangeL_length] at hi
      have hxm := List.mem_of_getElem? hx
      rw [rangeL_mem] at hxm
      obtain ⟨dx, fx, gx⟩ := N.at (i := 2 + x) (by omega) (by omega)
      have a1 := Int.emod_nonneg dx (show m ≠ 0 by omega)
      have a2 := Int.emod_lt_of_pos dx (show 0 < m by omega)
      have fin : ∀ v : Int, 1 ≤ v → v ≤ 60 → ∃ s', (if (!s.1.any fun y => y == v) = true then (appR s.1 v).bind fun v9 => R.ok (Fl.nx (v9, ())) else (R.ok (Fl.nx (s.1, ())) : R (Fl (List Int × Unit) (List Int × Unit) (List Int)))) = .ok (.nx s') ∧ s'.1.length ≤ i + 1 ∧ (0 < i + 1 → s'.1 ≠ []) ∧ ∀ x ∈ s'.1, 1 ≤ x ∧ x ≤ 60 := fun v v1 v2 => by
        by_cases c : (!s.1.any fun y => y == v) = true
        · rw [if_pos c, appR_ok (by omega), okb]
          refine ⟨_, rfl, by simp; exact h1, fun _ => by simp, fun y hy => ?_⟩
          rcases List.mem_append.mp hy with hy | hy
          · exact h3 y hy
          · rw [List.mem_singleton.mp hy]
            exact ⟨v1, v2⟩
        · rw [if_neg c]
          refine ⟨_, rfl, Nat.le_succ_of_le h1, fun _ z => ?_, h3⟩
          have z : s.1 = [] := z
          rw [z] at c
          exact c rfl
      rw [fx, okb, modR_ok (by omega), okb, okb, modR_ok (by decide), okb, okb]
      by_cases c : d11 % 3 = 0
      · rw [decide_eq_true c, if_pos rfl, mulR_okL (by decide) (by decide)]
        simp only [okb]
        exact fin _ (by omega) (by omega)
      · rw [decide_eq_false c, if_neg Bool.false_ne_true, okb]
        exact fin _ (by omega) (by omega)
  rw [rangeL_length] at h1 h2
  rw [e, okb, contR_inl]
  refine ⟨sortI s.1, rfl, ⟨fun z => ?_, fun l hl => ?_, fun l hl => ?_, ?_⟩, sortI_pw (hasT := ⟨[]⟩) _⟩
  · have := (sortI_perm (hasT := ⟨[]⟩) s.1).length_eq
    rw [z] at this
    exact h2 (by omega) (List.length_eq_zero_iff.mp this.symm)
  · exact (h3 l ((sortI_perm (hasT := ⟨[]⟩) s.1).mem_iff.mp hl)).1
  · exact (h3 l ((sortI_perm (hasT := ⟨[]⟩) s.1).mem_iff.mp hl)).2
  · have := (sortI_perm (hasT := ⟨[]⟩) s.1).length_eq
    omega
/-! ### find_waste -/
theorem rangeL_pw (lo : Int) (n : Nat) : (rangeL lo n).Pairwise (· < ·) := by
  unfold rangeL
  rw [List.pairwise_map]
  exact List.pairwise_lt_range.imp fun h => by omega
theorem first_of {p : Int → Bool} {n : Nat} {w0 : Int} (h : 0 ≤ w0) (h1 : w0 < n) (hp : p w0 = true) : ∃ w r, ((rangeL 0 n).filter p).map (fun x => x) = w :: r ∧ 0 ≤ w ∧ w ≤ w0 ∧ p w = true ∧ ∀ s, 0 ≤ s → s < w → p s = false := by
  rw [List.map_id']
  have hmem : w0 ∈ (rangeL 0 n).filter p := List.mem_filter.mpr ⟨rangeL_mem.mpr ⟨h, by omega⟩, hp⟩
  have pw := (rangeL_pw 0 n).filter p
  cases q : (rangeL 0 n).filter p with
  | nil => rw [q] at hmem; cases hmem
  | cons w r =>
    rw [q] at hmem pw
    have hw : w ∈ (rangeL 0 n).filter p := by rw [q]; exact List.mem_cons_self
    obtain ⟨a1, a2⟩ := List.mem_filter.mp hw
    rw [rangeL_mem] at a1
    have le : ∀ s ∈ w :: r, w ≤ s := fun s hs => by
      rcases List.mem_cons.mp hs with e | hs
      · omega
      · have := List.rel_of_pairwise_cons pw hs
        omega
    refine ⟨w, r, rfl, a1.1, le _ hmem, a2, fun s s0 s1 => ?_⟩
    cases ps : p s with
    | false => rfl
    | true =>
      have : s ∈ (rangeL 0 n).filter p := List.mem_filter.mpr ⟨rangeL_mem.mpr ⟨s0, by omega⟩, ps⟩
      rw [q] at this
      have := le s this
      omega
theorem cut1 (xs : List Int) : cutL xs (some 1) none = xs.drop 1 := by
  unfold cutL
  rw [show HT.sIx xs.length 0 (some 1) = min 1 xs.length from HT.sIx_nat xs.length 0 1, HT.sIx_none]
  cases xs with
  | nil => rfl
  | cons x r =>
    rw [show min 1 (x :: r).length = 1 by
      rw [List.length_cons]
      omega]
    show List.take ((x :: r).length - 1) r = r
    rw [List.length_cons, Nat.add_sub_cancel]
    exact List.take_length
theorem told_dec {ls : List Int} {t : Tab} (g : Good ls) (A : Acc ls t) (n : Int) : ∃ b, m_told_by (t, n, ()) = .ok b ∧ (b = true ↔ Rep ls n) :=
  (says_told A.len (g.pos _ g.hd_mem)).iff (A.iff g n)
theorem find_waste_ok {ls : List Int} {bar : Int} (g : Good ls) (h0 : 0 ≤ bar) : Okd (m_find_waste (ls, bar, ())) fun p => AccW ls bar p := by
  have ha := g.pos _ g.hd_mem
  have hb := g.le _ g.hd_mem
  have hn := g.len
  obtain ⟨t, et, A, _⟩ := find_cuts_ok g g.le
  unfold m_find_waste p_find_waste
  simp only [okb, atR_zero g.hd_get]
  rw [et]
  simp only [okb]
  rw [rng1R_ok (by omega) (by omega), okb, szLR_ok (by rw [rangeL_length]; omega), okb]
  have w1 := Int.emod_nonneg bar (show hd ls ≠ 0 by omega)
  have w2 := Int.emod_lt_of_pos bar (show 0 < hd ls by omega)
  have w3 : bar % hd ls ≤ bar := by
    have := Int.mul_ediv_add_emod bar (hd ls)
    have := Int.mul_nonneg (show 0 ≤ hd ls by omega) (Int.ediv_nonneg h0 (show 0 ≤ hd ls by omega))
    omega
  have hrep : Rep ls (bar - bar % hd ls) := by
    have e : bar - bar % hd ls = hd ls * (bar / hd ls) := by
      have := Int.mul_ediv_add_emod bar (hd ls)
      omega
    have hk : 0 ≤ bar / hd ls := Int.ediv_nonneg h0 (by omega)
    rw [e]
    have := rep_mul (ls := ls) g.hd_mem (bar / hd ls).toNat
    rw [show (((bar / hd ls).toNat : Nat) : Int) = bar / hd ls by omega] at this
    exact this
  let p : Int → Bool := fun x => (told_dec g A (bar - x)).choose
  have hp : ∀ x, m_told_by (t, bar - x, ()) = .ok (p x) ∧ (p x = true ↔ Rep ls (bar - x)) := fun x => (told_dec g A (bar - x)).choose_spec
  rw [compR_ok (p := p) (h := fun x => x) (fun x _ => (hp x).1) fun _ _ _ => rfl, okb]
  obtain ⟨w, r, ew, q0, q1, q2, q3⟩ := first_of (p := p) (n := (min (bar + 1) (hd ls)).toNat) w1 (by omega) ((hp _).2.mpr hrep)
  rw [ew, atR_zero (x := w) rfl, okb]
  have m0 := Int.emod_nonneg (bar - w) (show hd ls ≠ 0 by omega)
  have m1 := Int.emod_lt_of_pos (bar - w) (show 0 < hd ls by omega)
  have hR := (hp w).2.mp q2
  obtain ⟨it, i1, i2⟩ := A.told g hR
  obtain ⟨v1, v2, _⟩ := A.items _ m0 m1 it i1
  rw [modR_ok (by omega), okb, at_get m0 (by rw [A.len]; exact m1), okb, i1]
  simp only [id, optR_some, okb]
  rw [fdivR_ok (by omega) (by omega), okb]
  obtain ⟨n0, nr, en⟩ : ∃ n0 nr, it.2.1 = n0 :: nr := by
    cases q : it.2.1 with
    | nil =>
      have := v1.1
      rw [q] at this
      exact absurd (List.length_eq_zero_iff.mp this.symm) g.ne
    | cons a b => exact ⟨a, b, rfl⟩
  have hlen := v1.1
  rw [en] at hlen
  rw [en, atR_zero (x := n0) rfl]
  simp only [okb]
  rw [szR_ok (by simp)]
  simp only [okb]
  rw [cut1, catR_ok (by simp at hlen ⊢; omega)]
  simp only [okb]
  refine ⟨_, rfl, A, q0, ?_, fun s s0 s1 => ?_⟩
  · show valid ls ([n0 + (bar - w - it.1) / hd ls] ++ nr) (bar - w)
    obtain ⟨h1, h2, h3⟩ := v1
    rw [en] at h2 h3
    have hdiv : 0 ≤ (bar - w - it.1) / hd ls := Int.ediv_nonneg (by omega) (by omega)
    refine ⟨by simpa using hlen, fun x hx => ?_, ?_⟩
    · rcases List.mem_append.mp hx with hx | hx
      · have := h2 n0 List.mem_cons_self
        rw [List.mem_singleton.mp hx]
        omega
      · exact h2 x (List.mem_cons_of_mem _ hx)
    · cases hls : ls with
      | nil => exact absurd hls g.ne
      | cons a lr =>
        rw [hls, sumOf_cons] at h3
        have ea : hd ls = a := by rw [hls]; rfl
        show sumOf (a :: lr) ((n0 + (bar - w - it.1) / hd (a :: lr)) :: nr) = bar - w
        rw [← hls, ea, hls, sumOf_cons, Int.mul_add]
        have hz : (bar - w - it.1) % a = 0 := by
          rw [← ea]
          exact Int.emod_eq_emod_iff_emod_sub_eq_zero.mp v2.symm
        have := Int.mul_ediv_add_emod (bar - w - it.1) a
        omega
  · show ¬told ls t (bar - s)
    rw [A.iff g]
    intro z
    have := q3 s s0 (by omega)
    rw [(hp s).2.mpr z] at this
    cases this
end K73
end
section
set_option maxRecDepth 100000
set_option maxHeartbeats 2000000
namespace K73
open PySem L2 Tr
theorem rng3_ok {i j c : Int} (h0 : 0 ≤ i) (h1 : i < j) (h2 : j ≤ 100000) (h3 : 0 < c) (h4 : c ≤ 100000) : rng3R i j c = .ok (rangeC i c ((j - i - 1) / c + 1).toNat) := by
  have hd0 := Int.ediv_nonneg (show 0 ≤ j - i - 1 by omega) (show 0 ≤ c by omega)
  have hd1 : (j - i - 1) / c ≤ j - i - 1 := Int.ediv_le_self _ (by omega)
  have es : Builtin.Range.rangeSize i j c = (j - i - 1) / c + 1 := by
    unfold Builtin.Range.rangeSize
    rw [if_pos (by omega), if_pos h1]
  have fit : ∀ x : Int, -200000 ≤ x → x ≤ 300000 → Builtin.Range.rangeFitsLong x = true := fun x a b => by
    unfold Builtin.Range.rangeFitsLong
    simp
    omega
  unfold rng3R rng3Ok
  rw [es]
  have hs : Builtin.Range.small i j c = true := by
    unfold Builtin.Range.small
    rw [es, if_pos (by omega), fit i (by omega) (by omega), fit j (by omega) (by omega), fit c (by omega) (by omega), fit _ (by omega) (by omega), fit _ (by omega) (by omega)]
    simp
  rw [hs, decide_eq_true (by omega : c ≠ 0), decide_eq_true (by omega : c.natAbs < 1073741824), decide_eq_true (by omega : 0 ≤ (j - i - 1) / c + 1)]
  rfl
theorem rep_step {ls : List Int} (g : Good ls) {x : Int} (h : 1 ≤ x) : Rep ls x ↔ ∃ l ∈ ls, l ≤ x ∧ Rep ls (x - l) := by
  constructor
  · intro r
    cases r with
    | zero => omega
    | @add n l r hl =>
      have := rep_nn g.pos r
      exact ⟨l, hl, by omega, by rw [show n + l - l = n by omega]; exact r⟩
  · rintro ⟨l, hl, _, r⟩
    have := Rep.add r hl
    rw [show x - l + l = x by omega] at this
    exact this
theorem rep_more {ls : List Int} (g : Good ls) {m n : Int} (h : Rep ls m) (hle : m ≤ n) (he : m % hd ls = n % hd ls) : Rep ls n := by
  have ha := g.pos _ g.hd_mem
  have e : n = m + hd ls * ((n - m) / hd ls) := by
    have : (n - m) % hd ls = 0 := Int.emod_eq_emod_iff_emod_sub_eq_zero.mp he.symm
    have := Int.mul_ediv_add_emod (n - m) (hd ls)
    omega
  have hk : 0 ≤ (n - m) / hd ls := Int.ediv_nonneg (by omega) (by omega)
  rw [e]
  have := rep_mul (ls := ls) g.hd_mem ((n - m) / hd ls).toNat
  rw [show ((((n - m) / hd ls).toNat : Nat) : Int) = (n - m) / hd ls by omega] at this
  exact rep_plus h this
theorem getD_set {xs : List Bool} {i n : Int} {v : Bool} (h0 : 0 ≤ i) (h : i < xs.length) (hn : 0 ≤ n) : (xs.set i.toNat v).getD n.toNat false = if n = i then v else xs.getD n.toNat false := by
  rw [List.getD_eq_getElem?_getD, List.getD_eq_getElem?_getD]
  by_cases e : n = i
  · subst e
    rw [List.getElem?_set_self (by omega), if_pos rfl]
    rfl
  · rw [List.getElem?_set_ne (by omega), if_neg e]
theorem rangeC_mem {lo c x : Int} {n : Nat} : x ∈ rangeC lo c n ↔ ∃ k : Nat, k < n ∧ x = lo + (k : Int) * c := by
  unfold rangeC
  rw [List.mem_map]
  constructor
  · rintro ⟨i, hi, rfl⟩
    exact ⟨i, List.mem_range.mp hi, rfl⟩
  · rintro ⟨i, hi, rfl⟩
    exact ⟨i, List.mem_range.mpr hi, rfl⟩
theorem rangeC_pw {lo c : Int} (hc : 0 < c) (n : Nat) : (rangeC lo c n).Pairwise (· < ·) := by
  unfold rangeC
  rw [List.pairwise_map]
  exact List.pairwise_lt_range.imp fun {a b} h => by
    have := Int.mul_lt_mul_of_pos_right (show (a : Int) < b by omega) hc
    omega
def Lab (ls : List Int) (r : Int) (o : Option Int) : Prop := ∀ n, 0 ≤ n → n % hd ls = r → ((∃ μ, o = some μ ∧ μ ≤ n) ↔ Rep ls n)
theorem labels_ok {ls : List Int} (g : Good ls) (sorted : ls.Pairwise (· ≤ ·)) : Okd (m__law_labels (ls, ())) fun lab => (lab.length : Int) = hd ls ∧ ∀ r, 0 ≤ r → r < hd ls → Lab ls r (lab.getD r.toNat none) := by
  have ha := g.pos _ g.hd_mem
  have hb := g.le _ g.hd_mem
  have hn := g.len
  have hne : 0 < ls.length := List.length_pos_iff.mpr g.ne
  obtain ⟨M, eM, hMm, hM⟩ : ∃ M, atR ls ((ls.length : Int) - 1) = .ok M ∧ M ∈ ls ∧ ∀ l ∈ ls, l ≤ M := by
    refine ⟨ls[ls.length - 1], ?_, List.getElem_mem _, fun l hl => ?_⟩
    · exact atR_get (by omega) (by
        rw [show ((ls.length : Int) - 1).toNat = ls.length - 1 by omega]
        exact List.getElem?_eq_getElem (by omega))
    · obtain ⟨i, hi, rfl⟩ := List.getElem_of_mem hl
      by_cases e : i = ls.length - 1
      · subst e
        exact Int.le_refl _
      · exact List.pairwise_iff_getElem.mp sorted i (ls.length - 1) hi (by omega) (by omega)
  obtain ⟨T, _, A, bound⟩ := find_cuts_ok g hM
  have hM1 := g.pos _ hMm
  have hM2 := g.le _ hMm
  have hs1 : 1 ≤ hd ls * M := by
    have := Int.mul_le_mul ha hM1 (by decide) (show 0 ≤ hd ls by omega)
    omega
  have hs2 : hd ls * M ≤ 3600 := by
    have := Int.mul_le_mul hb hM2 (by omega) (by decide : (0 : Int) ≤ 60)
    omega
  unfold m__law_labels p__law_labels
  simp only [okb, atR_zero g.hd_get, eM]
  rw [mulR_okL (by omega) (by omega), okb, okb, szR_ok (by simp)]
  simp only [okb]
  rw [szR_ok (by simp)]
  simp only [okb]
  generalize hv : hd ls * M + 1 = v2 at *
  rw [repR_ok (by omega) (by omega) (by simp; omega), okb, repL_one, catR_ok (by simp; omega), okb, rng2R_ok (by omega) (by omega) (by omega) (by omega), okb]
  obtain ⟨s, e, h1, h2⟩ := forR_inv0 (fun i (s : List Bool × Unit) => (s.1.length : Int) = v2 + 1 ∧ ∀ n : Int, 0 ≤ n → n ≤ (i : Int) → (s.1.getD n.toNat false = true ↔ Rep ls n)) (xs := rangeL 1 (v2 + 1 - 1).toNat) (s := ([true] ++ List.replicate v2.toNat false, ()))
    (step := fun s5 x4 => (((compR (fun x7 => andR (R.ok (decide (x7 ≤ x4))) (atR s5.1 (x4 - x7))) (fun x7 => R.ok x7) ls).bind fun xs => R.ok (xs.length : Int)).bind fun x => R.ok (decide (0 < x))).bind
                        fun x => (setR s5.1 x4 x).bind fun v6 => (R.ok (Fl.nx (v6, ())) : R (Fl (List Bool × Unit) (List Bool × Unit) (List (Option Int)))))
    ⟨by simp; omega, fun n n0 n1 => by
      have : n = 0 := by omega
      subst this
      exact ⟨fun _ => .zero, fun _ => rfl⟩⟩ fun i s x hx ⟨h1, h2⟩ => by
      have hi := (List.getElem?_eq_some_iff.mp hx).1
      rw [rangeL_length] at hi
      rw [rangeL_at hi] at hx
      cases hx
      rw [compR_ok (p := fun l => decide (l ≤ 1 + (i : Int)) && s.1.getD (1 + (i : Int) - l).toNat false) (h := fun x => x) (fun l hl => by
        by_cases c : l ≤ 1 + (i : Int)
        · have := g.pos _ hl
          rw [decide_eq_true c, andR_t, getD_int false (by omega) (by omega), Bool.true_and]
        · rw [decide_eq_false c, andR_f, Bool.false_and]) fun _ _ _ => rfl]
      rw [okb, okb, okb, setR_ok (by omega) (by omega), okb]
      refine ⟨_, rfl, by simpa using h1, fun n n0 n1 => ?_⟩
      rw [getD_set (by omega) (by omega) n0]
      by_cases en : n = 1 + (i : Int)
      · rw [if_pos en, decide_eq_true_iff, filter_pos, en, rep_step g (by omega)]
        constructor
        · rintro ⟨l, hl, z⟩
          rw [Bool.and_eq_true, decide_eq_true_iff] at z
          have := g.pos _ hl
          exact ⟨l, hl, z.1, (h2 _ (by omega) (by omega)).mp z.2⟩
        · rintro ⟨l, hl, z1, z2⟩
          have := g.pos _ hl
          refine ⟨l, hl, ?_⟩
          rw [Bool.and_eq_true, decide_eq_true_iff]
          exact ⟨z1, (h2 _ (by omega) (by omega)).mpr z2⟩
      · rw [if_neg en]
        exact h2 n n0 (by omega)
  rw [e, okb, contR_inl, szR_ok (by simp)]
  simp only [okb]
  rw [rng1R_ok (by omega) (by omega), okb]
  rw [rangeL_length] at h2
  obtain ⟨s2, e2, h3, h4⟩ := forR_inv0 (fun i (s2 : List (Option Int) × Unit) => s2.1.length = i ∧ ∀ r : Int, 0 ≤ r → r < i → Lab ls r (s2.1.getD r.toNat none)) (xs := rangeL 0 (hd ls).toNat) (s := (([] : List (Option Int)), ()))
    (step := fun s11 x10 => ((rng3R x10 (v2 + 1) (hd ls)).bind szLR).bind fun xs =>
                                (compR (fun x13 => atR s.1 x13) (fun x7 => R.ok x7) xs).bind fun v12 =>
                                  ((((szR [(none : Option Int)].length).bind fun x => R.ok [(none : Option Int)]).bind fun y => catR (List.map some v12) y).bind fun xs => atR xs 0).bind
                                    fun x => (appR s11.1 x).bind fun v14 => (R.ok (Fl.nx (v14, ())) : R (Fl (List (Option Int) × Unit) (List (Option Int) × Unit) (List (Option Int)))))
    ⟨rfl, fun r _ h => by omega⟩ fun i s2 x hx ⟨h3, h4⟩ => by
      have hi := (List.getElem?_eq_some_iff.mp hx).1
      rw [rangeL_length] at hi
      rw [rangeL_at hi] at hx
      cases hx
      rw [Int.zero_add]
      have hia : hd ls ≤ v2 := by
        have := Int.mul_le_mul (Int.le_refl (hd ls)) hM1 (by decide) (show 0 ≤ hd ls by omega)
        omega
      have hq : (v2 + 1 - (i : Int) - 1) / hd ls ≤ v2 + 1 - (i : Int) - 1 := Int.ediv_le_self _ (by omega)
      have hlenC : (rangeC (i : Int) (hd ls) ((v2 + 1 - (i : Int) - 1) / hd ls + 1).toNat).length = ((v2 + 1 - (i : Int) - 1) / hd ls + 1).toNat := by simp [rangeC]
      rw [rng3_ok (by omega) (by omega) (by omega) (by omega) (by omega), okb, szLR_ok (by rw [hlenC]; omega), okb]
      have inR : ∀ y, y ∈ rangeC (i : Int) (hd ls) ((v2 + 1 - (i : Int) - 1) / hd ls + 1).toNat ↔ (i : Int) ≤ y ∧ y ≤ v2 ∧ y % hd ls = i := fun y => by
        rw [rangeC_mem]
        constructor
        · rintro ⟨k, hk, rfl⟩
          have hk0 : (k : Int) ≤ (v2 + 1 - (i : Int) - 1) / hd ls := by
            have := Int.ediv_nonneg (show 0 ≤ v2 + 1 - (i : Int) - 1 by omega) (show 0 ≤ hd ls by omega)
            omega
          have hk1 := Int.mul_le_mul_of_nonneg_right hk0 (show 0 ≤ hd ls by omega)
          have hk2 := Int.ediv_mul_le (v2 + 1 - (i : Int) - 1) (show hd ls ≠ 0 by omega)
          have hk3 := Int.mul_nonneg (show (0 : Int) ≤ k by omega) (show 0 ≤ hd ls by omega)
          refine ⟨by omega, by omega, ?_⟩
          rw [Int.add_mul_emod_self_right]
          exact Int.emod_eq_of_lt (by omega) (by omega)
        · rintro ⟨y0, y1, y2⟩
          have e1 : y = i + (y / hd ls) * hd ls := by
            have := Int.mul_ediv_add_emod y (hd ls)
            rw [Int.mul_comm] at this
            omega
          have hk : 0 ≤ y / hd ls := Int.ediv_nonneg (by omega) (by omega)
          refine ⟨(y / hd ls).toNat, ?_, by rw [show (((y / hd ls).toNat : Nat) : Int) = y / hd ls by omega]; exact e1⟩
          have : y / hd ls ≤ (v2 + 1 - (i : Int) - 1) / hd ls := by
            rw [Int.le_ediv_iff_mul_le (by omega)]
            omega
          omega
      rw [compR_ok (p := fun y => s.1.getD y.toNat false) (h := fun x => x) (fun y hy => by
        obtain ⟨y0, y1, _⟩ := (inR y).mp hy
        exact getD_int false (by omega) (by omega)) fun _ _ _ => rfl, okb, szR_ok (by simp)]
      simp only [okb]
      rw [List.map_id']
      have pw := (rangeC_pw (lo := (i : Int)) (show 0 < hd ls by omega) ((v2 + 1 - (i : Int) - 1) / hd ls + 1).toNat).filter (fun y => s.1.getD y.toNat false)
      have hF : ∀ y, y ∈ (rangeC (i : Int) (hd ls) ((v2 + 1 - (i : Int) - 1) / hd ls + 1).toNat).filter (fun y => s.1.getD y.toNat false) ↔ ((i : Int) ≤ y ∧ y ≤ v2 ∧ y % hd ls = i) ∧ Rep ls y := fun y => by
        rw [List.mem_filter, inR]
        constructor
        · rintro ⟨q1, q2⟩
          exact ⟨q1, (h2 y (by omega) (by omega)).mp q2⟩
        · rintro ⟨q1, q2⟩
          exact ⟨q1, (h2 y (by omega) (by omega)).mpr q2⟩
      have hFl : ((rangeC (i : Int) (hd ls) ((v2 + 1 - (i : Int) - 1) / hd ls + 1).toNat).filter (fun y => s.1.getD y.toNat false)).length ≤ 4000 := by
        have := List.length_filter_le (fun y => s.1.getD y.toNat false) (rangeC (i : Int) (hd ls) ((v2 + 1 - (i : Int) - 1) / hd ls + 1).toNat)
        omega
      generalize (rangeC (i : Int) (hd ls) ((v2 + 1 - (i : Int) - 1) / hd ls + 1).toNat).filter (fun y => s.1.getD y.toNat false) = F at pw hF hFl
      rw [catR_ok (by simp; omega), okb]
      have hat : atR (List.map some F ++ [none]) 0 = .ok F.head? := by
        cases F with
        | nil => rfl
        | cons y r => exact atR_zero (x := some y) rfl
      rw [hat, okb, appR_ok (by omega), okb]
      have hlab : Lab ls (i : Int) F.head? := fun n n0 n1 => by
        constructor
        · rintro ⟨μ, e1, e2⟩
          have hm : μ ∈ F := List.mem_of_mem_head? (by rw [e1]; rfl)
          obtain ⟨q1, q2⟩ := (hF μ).mp hm
          exact rep_more g q2 e2 (by rw [q1.2.2, n1])
        · intro r
          obtain ⟨it, i1, i2⟩ := A.told g r
          rw [n1] at i1
          obtain ⟨v1, v2', _⟩ := A.items _ (by omega) (by omega) it i1
          have b1 := bound _ it (by omega) (by omega) i1
          have b2 := rep_nn g.pos v1.rep
          have b3 : (i : Int) ≤ it.1 := by
            rw [← v2']
            have := Int.mul_ediv_add_emod it.1 (hd ls)
            have := Int.mul_nonneg (show 0 ≤ hd ls by omega) (Int.ediv_nonneg b2 (show 0 ≤ hd ls by omega))
            omega
          have hm := (hF it.1).mpr ⟨⟨b3, by omega, v2'⟩, v1.rep⟩
          cases F with
          | nil => cases hm
          | cons y rr =>
            refine ⟨y, rfl, ?_⟩
            rcases List.mem_cons.mp hm with e1 | hm
            · omega
            · have := List.rel_of_pairwise_cons pw hm
              omega
      refine ⟨_, rfl, by simp [h3], fun r r0 r1 => ?_⟩
      rw [List.getD_eq_getElem?_getD]
      by_cases er : r = i
      · subst er
        rw [Int.toNat_natCast, List.getElem?_append_right (by omega), h3]
        simpa using hlab
      · rw [List.getElem?_append_left (by omega), ← List.getD_eq_getElem?_getD]
        exact h4 r r0 (by omega)
  rw [e2, okb, contR_inl]
  rw [rangeL_length] at h3 h4
  exact ⟨s2.1, rfl, by omega, fun r r0 r1 => h4 r r0 (by omega)⟩
end K73
end
section
set_option maxRecDepth 100000
set_option maxHeartbeats 4000000
namespace K73
open PySem L2 Tr
section
variable {α β : Type} {Q : β → Prop}
theorem p_sz {n : Nat} {k : Unit → R (Fl Empty Empty β)} (h : n ≤ 1000000) (h2 : Okd (unF (k ())) Q) : Okd (unF ((szR n).bind k)) Q := by
  rw [szR_ok (by omega), okb]
  exact h2
theorem p_cat {xs ys : List α} {k : List α → R (Fl Empty Empty β)} (h : xs.length + ys.length ≤ 1000000) (h2 : ∀ zs : List α, zs.length = xs.length + ys.length → Okd (unF (k zs)) Q) : Okd (unF ((catR xs ys).bind k)) Q := by
  rw [catR_ok (by omega), okb]
  exact h2 _ (by simp)
theorem p_catC {xs ys : List α} {p q : Option Int} {k : List α → R (Fl Empty Empty β)} (h : xs.length + ys.length ≤ 1000000) (h2 : ∀ zs : List α, zs.length ≤ xs.length + ys.length → Okd (unF (k zs)) Q) : Okd (unF ((catR xs (cutL ys p q)).bind k)) Q := by
  have := cutL_len ys p q
  exact p_cat (by omega) fun zs hz => h2 zs (by omega)
theorem p_at {xs : List α} {i : Int} {k : α → R (Fl Empty Empty β)} (h0 : 0 ≤ i) (h : i < xs.length) (h2 : ∀ x ∈ xs, Okd (unF (k x)) Q) : Okd (unF ((atR xs i).bind k)) Q := okd_unF (okd_at h0 h) h2
theorem p_mod {i j : Int} {k : Int → R (Fl Empty Empty β)} (h : 0 < j) (h2 : ∀ x, 0 ≤ x → x < j → Okd (unF (k x)) Q) : Okd (unF ((modR i j).bind k)) Q := okd_unF (okd_mod h) fun x hx => h2 x hx.1 hx.2
theorem p_rep {xs : List α} {n : Int} {k : List α → R (Fl Empty Empty β)} (h0 : 0 ≤ n) (h : n ≤ 1000) (hx : xs.length ≤ 1000) (h2 : ∀ zs, Okd (unF (k zs)) Q) : Okd (unF ((repR xs n).bind k)) Q := by
  rw [repR_ok h0 (by omega) (by
    have : xs.length * n.toNat ≤ 1000 * 1000 := Nat.mul_le_mul hx (by omega)
    omega), okb]
  exact h2 _
theorem p_rng {n : Int} {k : List Int → R (Fl Empty Empty β)} (h0 : 0 ≤ n) (h : n ≤ 1000000) (h2 : Okd (unF (k (rangeL 0 n.toNat))) Q) : Okd (unF ((rng1R n).bind fun a => (szLR a).bind k)) Q := by
  rw [rng1R_ok (by omega) (by omega), okb, szLR_ok (by rw [rangeL_length]; omega), okb]
  exact h2
theorem p_map {xs : List α} {g : α → R Int} {k : List Int → R (Fl Empty Empty β)} (h : ∀ x ∈ xs, Okd (g x) fun _ => True) (h2 : ∀ ys : List Int, Okd (unF (k ys)) Q) : Okd (unF ((mapR g xs).bind k)) Q := okd_unF (okd_map h) fun ys _ => h2 ys
end
theorem bent_ok {ls : List Int} {t : Tab} {k : List Int} (g : Good ls) (A : Acc ls t) (hk : 2 ≤ k.length) : Okd (m__law_bent_tables (ls, t, k, ())) fun xs => xs.length ≤ 100 := by
  have ha := g.pos _ g.hd_mem
  have hb := g.le _ g.hd_mem
  have hn := g.len
  have hne : 0 < ls.length := List.length_pos_iff.mpr g.ne
  have hl := A.len
  have hlt : t.length ≤ 60 := by omega
  unfold m__law_bent_tables p__law_bent_tables
  simp only [R.bind_assoc, okb]
  rw [atR_zero g.hd_get, okb]
  refine p_sz (by simp) (p_cat (by simp; omega) fun z1 hz1 => p_sz (by simp) (p_catC (by simp; omega) fun z2 hz2 => p_sz (by simp) (p_rep (by omega) (by omega) (by simp) fun z3 => p_sz (by simp) (p_rng (by omega) (by omega) ?_))))
  rw [compR_ok (p := fun k => (at_ t k).isSome) (h := fun k => k) (fun k hk => by
    rw [rangeL_mem] at hk
    rw [at_get hk.1 (by omega), okb]) fun _ _ _ => rfl, okb, List.map_id']
  have mem : ∀ x, x ∈ (rangeL 0 (hd ls).toNat).filter (fun k => (at_ t k).isSome) ↔ (0 ≤ x ∧ x < hd ls) ∧ (at_ t x).isSome = true := fun x => by
    rw [List.mem_filter, rangeL_mem]
    constructor
    · rintro ⟨h1, h2⟩
      exact ⟨by omega, h2⟩
    · rintro ⟨h1, h2⟩
      exact ⟨by omega, h2⟩
  generalize (rangeL 0 (hd ls).toNat).filter (fun k => (at_ t k).isSome) = F at mem
  have hF : 0 < F.length := by
    obtain ⟨it, h1, _⟩ := A.zero
    exact List.length_pos_of_mem ((mem 0).mpr ⟨⟨by decide, by omega⟩, by rw [h1]; rfl⟩)
  refine p_at (by decide) (by omega) fun x1 _ => p_mod (by omega) fun y1 y1a y1b => p_at y1a y1b fun v5 h5 => p_at (by decide) (by omega) fun x2 _ => p_mod (by omega) fun v6 h6a h6b => ?_
  obtain ⟨⟨h50, h51⟩, h52⟩ := (mem v5).mp h5
  rw [at_get h50 (by omega), okb]
  cases q : at_ t v5 with
  | none => rw [q] at h52; cases h52
  | some it =>
    obtain ⟨v1, _, _⟩ := A.items v5 h50 h51 it q
    have hns := v1.1
    simp only [id, optR_some, okb]
    refine p_rng (by omega) (by omega) (p_map (fun x hx => ?_) fun v8 => ?_)
    · rw [rangeL_mem] at hx
      obtain ⟨y, e, _⟩ := okd_at (xs := it.2.1) hx.1 (by omega)
      rw [e, okb]
      exact ⟨_, rfl, trivial⟩
    refine p_at (by decide) (by omega) fun n0 _ => p_at h6a h6b fun a6 _ => p_sz (by simp) (p_catC (by simp; omega) fun z4 hz4 => p_at h6a (by omega) fun n6 _ => p_sz (by simp) (p_cat (by simp at *; omega) fun z5 hz5 => p_catC (by simp at *; omega) fun v10 _ => ?_))
    refine p_at (by decide) (by omega) fun n1 _ => p_sz (by simp) (p_catC (by simp; omega) fun z6 _ => p_at (by decide) (by omega) fun n2 _ => p_sz (by simp) (p_catC (by simp; omega) fun z7 _ => p_at h6a h6b fun a7 _ => p_sz (by simp) ?_))
    refine p_sz (by simp) (p_cat (by simp; omega) fun z8 _ => p_sz (by simp) (p_rep (by omega) (by omega) (by simp) fun z9 => p_sz (by simp) (p_cat (by simp) fun v12 h12 => ?_)))
    have key : ∀ s14 : List (Option Item) × Unit, s14.1.length ≤ 20 → ∀ v2 : List Tab, v2.length = 6 → Okd (unF ((forR (fun (s16 : List Tab × Unit) (x15 : Option Item) => ((szR [x15].length).bind fun _ => (catR (cutL t (some 0) (some v5)) [x15]).bind fun a => (catR a (cutL t (some (v5 + 1)) none)).bind fun x => (appR s16.1 x).bind fun v17 => (R.ok (Fl.nx (v17, ())) : R (Fl (List Tab × Unit) (List Tab × Unit) (List Tab))))) s14.1 (v2, ())).bind (contR fun s18 => R.ok (Fl.rt s18.1)))) fun xs => xs.length ≤ 100 := fun s14 h14 v2 hv2 => by
      obtain ⟨s, e, h1⟩ := forR_inv0 (fun i (s : List Tab × Unit) => s.1.length = 6 + i) (xs := s14.1) (s := (v2, ()))
        (step := fun (s16 : List Tab × Unit) (x15 : Option Item) => ((szR [x15].length).bind fun _ => (catR (cutL t (some 0) (some v5)) [x15]).bind fun a => (catR a (cutL t (some (v5 + 1)) none)).bind fun x => (appR s16.1 x).bind fun v17 => (R.ok (Fl.nx (v17, ())) : R (Fl (List Tab × Unit) (List Tab × Unit) (List Tab))))) hv2 fun i s x hx hs => by
        have hi := (List.getElem?_eq_some_iff.mp hx).1
        have c1 := cutL_len t (some 0) (some v5)
        have c2 := cutL_len t (some (v5 + 1)) none
        rw [szR_ok (by simp), okb, catR_ok (by simp; omega), okb, catR_ok (by simp; omega), okb, appR_ok (by omega), okb]
        exact ⟨_, rfl, by simp [hs]; omega⟩
      rw [e, okb]
      exact ⟨s.1, rfl, by omega⟩
    simp only [List.length_cons, List.length_nil] at h12
    by_cases c : 0 < v6
    · rw [decide_eq_true c, if_pos rfl, appR_ok (by omega), okb, okb]
      exact key (v12 ++ [some (it.1, v10, ())], ()) (by simp; omega) _ rfl
    · rw [decide_eq_false c, if_neg Bool.false_ne_true, okb]
      exact key (v12, ()) (by show v12.length ≤ 20; omega) _ rfl
theorem papers_ok {ls : List Int} {p : Paper} {bar : Int} {k : List Int} (g : Good ls) (A : AccW ls bar p) (hk : 3 ≤ k.length) : Okd (m__law_papers (ls, p, k, ())) fun xs => xs.length ≤ 1000 := by
  have ha := g.pos _ g.hd_mem
  have hb := g.le _ g.hd_mem
  have hn := g.len
  have hne : 0 < ls.length := List.length_pos_iff.mpr g.ne
  obtain ⟨A, _, v, _⟩ := A
  have hns := v.1
  unfold m__law_papers p__law_papers
  simp only [R.bind_assoc, okb]
  rw [atR_zero g.hd_get, okb]
  have idx : ∀ (f : Int → Int → Int), ∀ x ∈ rangeL 0 (p.2.1.length : Int).toNat, Okd ((atR p.2.1 x).bind fun y => R.ok (f x y)) fun _ => True := fun f x hx => by
    rw [rangeL_mem] at hx
    obtain ⟨y, e, _⟩ := okd_at (xs := p.2.1) hx.1 (by omega)
    rw [e, okb]
    exact ⟨_, rfl, trivial⟩
  refine p_at (by decide) (by omega) fun x1 _ => p_mod (by omega) fun v3 h3a h3b => p_rng (by omega) (by omega) (p_map (idx fun x y => y - ofB (decide (x = v3))) fun v4 => p_rng (by omega) (by omega) (p_map (idx fun x y => y + ofB (decide (x = v3))) fun v6 => ?_))
  refine p_at (by decide) (by omega) fun n1 _ => p_sz (by simp) (p_catC (by simp; omega) fun z1 _ => p_at (by decide) (by omega) fun n2 _ => p_sz (by simp) (p_catC (by simp; omega) fun z2 _ => p_sz (by simp) ?_))
  refine p_at h3a h3b fun a1 _ => p_at h3a h3b fun a2 _ => p_sz (by simp) (p_cat (by simp) fun v9 h9 => ?_)
  refine p_sz (by simp) (p_cat (by simp; omega) fun z3 _ => p_sz (by simp) (p_rep (by omega) (by omega) (by simp) fun z4 => p_sz (by simp) (p_cat (by simp at *; omega) fun v10 h10 => ?_)))
  simp only [List.length_cons, List.length_nil] at h9 h10
  refine okd_unF (bent_ok g A (by omega)) fun xs hxs => ?_
  obtain ⟨s, e, h1⟩ := forR_inv0 (fun i (s : List (Option Paper) × Unit) => s.1.length = v10.length + i) (xs := xs) (s := (v10, ()))
    (step := fun s12 x11 => (appR s12.1 (some (p.1, p.2.1, x11, ()))).bind fun v13 => (R.ok (Fl.nx (v13, ())) : R (Fl (List (Option Paper) × Unit) (List (Option Paper) × Unit) (List (Option Paper))))) rfl fun i s x hx hs => by
      have hi := (List.getElem?_eq_some_iff.mp hx).1
      rw [appR_ok (by omega), okb]
      exact ⟨_, rfl, by simp [hs]; omega⟩
  rw [e, okb]
  exact ⟨s.1, rfl, by omega⟩
/-! ### the law -/
theorem for_goal {σ α δ β : Type} {step : σ → α → R (Fl σ σ δ)} {k : σ ⊕ δ → R β} {xs : List α} {s0 : σ} (P : Nat → σ → Prop) (Q : R β → Prop) (h0 : P 0 s0) (H : ∀ (i : Nat) (s : σ) (x : α), xs[i]? = some x → P i s → ∃ s', step s x = .ok (.nx s') ∧ P (i + 1) s') (hq : ∀ s, P xs.length s → Q (k (.inl s))) : Q ((forR step xs s0).bind k) := by
  obtain ⟨s, e, p⟩ := forR_inv0 P h0 H
  rw [e, okb]
  exact hq s p
theorem cutL_mem {α : Type} {xs : List α} {a b : Option Int} {x : α} (h : x ∈ cutL xs a b) : x ∈ xs := by
  unfold cutL at h
  exact List.mem_of_mem_drop (List.mem_of_mem_take h)
theorem cut5 {xs : List Int} (h : xs.length = 20) : 3 ≤ (cutL xs (some 5) none).length := by
  unfold cutL
  rw [show HT.sIx xs.length 0 (some 5) = min 5 xs.length from HT.sIx_nat xs.length 0 5, HT.sIx_none, List.length_take, List.length_drop, h]
  decide
theorem eqv_ints : ∀ xs : List Int, PyData.eqvAll (xs.map PyData.int) (xs.map PyData.int) = true
  | [] => by simp [PyData.eqvAll]
  | x :: xs => by
    simp only [List.map_cons, PyData.eqvAll, PyData.eqv, eqv_ints xs]
    simp
theorem ne_ints (xs : List Int) : neR (listD PyData.int xs) (listD PyData.int xs) = .ok false := by
  have sh : SeqAt.shaped (listD PyData.int xs) = true := by
    unfold SeqAt.shaped listD
    rw [Bool.and_eq_true]
    constructor
    · rw [PyData.canLay0]
      induction xs with
      | nil => simp [PyData.canLayAll0]
      | cons x xs ih => simp [PyData.canLayAll0, PyData.canLay0, ih]
    · rw [decide_eq_true_iff]
      have : ∀ xs : List Int, PyData.depthAll (xs.map PyData.int) = 0 := fun xs => by
        induction xs with
        | nil => simp [PyData.depthAll]
        | cons x xs ih => simp [PyData.depthAll, PyData.depth, ih]
      rw [PyData.depth, this]
      decide
  unfold neR
  rw [sh]
  show R.ok _ = _
  unfold listD
  rw [PyData.eqv, eqv_ints]
  rfl
theorem min_up {w W : Int} {j : Nat} (h : w = min (j : Int) W) (hne : w ≠ W) : w + 1 = min ((j + 1 : Nat) : Int) W := by omega
theorem min_stay {w W : Int} {j : Nat} (h : w = min (j : Int) W) (e : w = W) : w = min ((j + 1 : Nat) : Int) W := by omega
theorem law_true (ns : List Int) (_ : ns.length ≤ 63) : m_law (ns, ()) = .ok true := by
  unfold m_law p_law
  simp only [okb]
  obtain ⟨ls, el, g, sorted⟩ := lengths_ok ns
  obtain ⟨lab, eb, hlab, hL⟩ := labels_ok g sorted
  have ha := g.pos _ g.hd_mem
  have hb := g.le _ g.hd_mem
  have hn := g.len
  rw [el]
  simp only [okb]
  rw [eb]
  simp only [okb]
  obtain ⟨c1, f1, _⟩ := cell_ok ns (k := 1) (by decide)
  obtain ⟨c2, f2, _⟩ := cell_ok ns (k := 2) (by decide)
  obtain ⟨dr, e1, N1⟩ := numbers_ok (c := c1) (n := 20) (lim := 5040) (by decide) (by decide) (by decide) (by decide)
  obtain ⟨gr, e2, N2⟩ := numbers_ok (c := c2) (n := 4) (lim := 10 ^ 12 + 1) (by decide) (by decide) (by decide) (by decide)
  rw [f1]
  simp only [okb]
  rw [e1]
  simp only [okb]
  rw [f2, show powR 10 12 = R.ok (10 ^ 12) by
    unfold powR powOk
    rfl]
  simp only [okb]
  rw [e2, okb]
  rw [compR_ok (xs := lab) (p := fun x => x.isSome) (h := fun x => x) (fun _ _ => rfl) fun _ _ _ => rfl, List.map_id']
  have hF : 0 < (lab.filter fun x => x.isSome).length := by
    obtain ⟨μ, h1, _⟩ := (hL 0 (Int.le_refl _) (by omega) 0 (Int.le_refl _) (Int.zero_emod _)).mpr .zero
    refine List.length_pos_of_mem (List.mem_filter.mpr ⟨?_, ?_⟩ : some μ ∈ _)
    · rw [← h1]
      exact getD_mem (xs := lab) none (Int.le_refl _) (by omega)
    · rfl
  have hFs : ∀ x ∈ lab.filter fun x => x.isSome, ∃ y, x = some y := fun x hx => by
    have := (List.mem_filter.mp hx).2
    cases x with
    | none => cases this
    | some y => exact ⟨y, rfl⟩
  generalize (lab.filter fun x => x.isSome) = F at hF hFs
  simp only [R.bind_assoc, okb]
  obtain ⟨b0, j0, q0⟩ := N2.at (i := 0) (by decide) (by decide)
  obtain ⟨b1, j1, q1⟩ := N2.at (i := 1) (by decide) (by decide)
  obtain ⟨d0, i0, r0⟩ := N1.at (i := 0) (by decide) (by decide)
  obtain ⟨d1, i1, r1⟩ := N1.at (i := 1) (by decide) (by decide)
  obtain ⟨d2, i2, r2⟩ := N1.at (i := 2) (by decide) (by decide)
  obtain ⟨d3, i3, r3⟩ := N1.at (i := 3) (by decide) (by decide)
  obtain ⟨d4, i4, r4⟩ := N1.at (i := 4) (by decide) (by decide)
  rw [j0, okb, i0, okb, modR_ok (by decide), okb, i1, okb, modR_ok (by decide), okb, i2, okb, modR_ok (by omega), okb]
  obtain ⟨fo, kf, hf⟩ := okd_at (xs := F) (i := d2 % (F.length : Int)) (Int.emod_nonneg _ (by omega)) (Int.emod_lt_of_pos _ (by omega))
  obtain ⟨fy, rfl⟩ := hFs fo hf
  rw [kf, okb]
  simp only [id, optR_some, okb]
  rw [i3, okb, atR_zero g.hd_get, okb, mulR_okL (by decide) (by decide), okb, modR_ok (by omega), okb, j1, okb, modR_ok (by decide), okb, szR_ok (by simp), okb, szR_ok (by simp), okb, i4, okb, modR_ok (by decide), okb]
  have bars : ∀ x ∈ cutL [b0, d0 % 200, d1 % 4000, max 0 (fy - 1), d3 % (2 * hd ls), 10 ^ 12 - b1 % 100] (some (d4 % 2)) none, 0 ≤ x := fun x hx => by
    have := cutL_mem hx
    have a1 := Int.emod_nonneg d0 (show (200 : Int) ≠ 0 by decide)
    have a2 := Int.emod_nonneg d1 (show (4000 : Int) ≠ 0 by decide)
    have a3 := Int.emod_nonneg d3 (show 2 * hd ls ≠ 0 by omega)
    have a4 := Int.emod_lt_of_pos b1 (show (0 : Int) < 100 by decide)
    simp only [List.mem_cons, List.not_mem_nil, or_false] at this
    rcases this with e | e | e | e | e | e <;> omega
  have barl := cutL_len [b0, d0 % 200, d1 % 4000, max 0 (fy - 1), d3 % (2 * hd ls), 10 ^ 12 - b1 % 100] (some (d4 % 2)) none
  generalize cutL [b0, d0 % 200, d1 % 4000, max 0 (fy - 1), d3 % (2 * hd ls), 10 ^ 12 - b1 % 100] (some (d4 % 2)) none = bs at bars barl
  simp only [List.length_cons, List.length_nil] at barl
  refine for_goal (fun i s => s.1.length = i) (fun m => unF m = R.ok true) rfl (fun i s bar hx hs => ?_) fun s _ => rfl
  have hi := (List.getElem?_eq_some_iff.mp hx).1
  have hbar := bars bar (List.mem_of_getElem? hx)
  obtain ⟨pp, ep, AW⟩ := find_waste_ok g hbar
  have LW := AW.least g
  have Wlt := LW.lt g
  have Wbar := rep_nn g.pos LW.rep
  have Wnn := LW.nn
  have pl1 := AW.2.2.1.1
  have pl2 := AW.1.len
  simp only [okb]
  rw [rng1R_ok (j := hd ls) (by omega) (by omega), okb]
  refine for_goal (s0 := ((0 : Int), ())) (fun i (s : Int × Unit) => s.1 = min (i : Int) pp.1) (fun (m : R (Fl (List (Option Paper) × Unit) (List (Option Paper) × Unit) Bool)) => ∃ s', m = R.ok (Fl.nx s') ∧ s'.1.length = i + 1) (by show (0 : Int) = min ((0 : Nat) : Int) pp.1; omega) (fun j s2 x2 hx2 hs2 => ?_) fun s2 hs2 => ?_
  · -- the least waste, step by step
    have hn0 : 0 ≤ bar - s2.1 := by omega
    rw [modR_ok (by omega), okb, getD_int none (Int.emod_nonneg _ (by omega)) (by rw [hlab]; exact Int.emod_lt_of_pos _ (by omega)), okb]
    have L := hL _ (Int.emod_nonneg (bar - s2.1) (by omega)) (Int.emod_lt_of_pos (bar - s2.1) (by omega)) (bar - s2.1) hn0 rfl
    have hrep : Rep ls (bar - s2.1) ↔ s2.1 = pp.1 := by
      constructor
      · intro r
        refine Classical.byContradiction fun z => LW.min s2.1 (by omega) (by omega) r
      · intro e
        rw [e]
        exact LW.rep
    rw [hrep] at L
    cases q : lab.getD ((bar - s2.1) % hd ls).toNat none with
    | none =>
      rw [q] at L
      have : s2.1 ≠ pp.1 := fun z => by
        obtain ⟨_, h, _⟩ := L.mpr z
        cases h
      rw [Option.isNone_none, orR_t, okb, if_pos rfl]
      exact ⟨_, rfl, min_up hs2 this⟩
    | some μ =>
      rw [q] at L
      simp only [Option.isNone_some, orR_f, optR_some, okb]
      by_cases c : bar - s2.1 < μ
      · have : s2.1 ≠ pp.1 := fun z => by
          obtain ⟨_, h, h2⟩ := L.mpr z
          cases h
          omega
        rw [decide_eq_true c, if_pos rfl]
        exact ⟨_, rfl, min_up hs2 this⟩
      · have := L.mp ⟨μ, rfl, by omega⟩
        rw [decide_eq_false c, if_neg Bool.false_ne_true]
        exact ⟨_, rfl, min_stay hs2 this⟩
  · rw [rangeL_length] at hs2
    have hw : s2.1 = pp.1 := by omega
    rw [contR_inl, hw, rng1R_ok (by decide) (by decide), okb, show rangeL 0 (2 : Int).toNat = [0, 1] from rfl]
    have hacc : m__law_accepts (ls, bar, some pp, ()) = .ok true := says_ok (says_law g) ⟨pp, rfl, AW⟩
    have chk : (orR (R.ok (decide (hd ls ≤ pp.1))) (orR (notR (m__law_accepts (ls, bar, some pp, ()))) (neR (listD PyData.int ls) (listD PyData.int ls)))) = .ok false := by
      rw [hacc, ne_ints, decide_eq_false (by omega)]
      rfl
    have sz : (guardR (decide (pp.2.1.length + 1 < sizeLine) && decide (pp.2.2.1.length + 1 < sizeLine))) = .ok () := by
      rw [decide_eq_true (by rw [sizeLine_eq]; omega), decide_eq_true (by rw [sizeLine_eq]; omega)]
      rfl
    simp only [forR_cons, ep, okb, same_int, decide_true, notR_ok, Bool.not_true, orR_f, chk, Bool.false_eq_true, if_false, if_true, sz, loopR_nx, show decide ((1 : Int) = 0) = false from rfl, show decide (((3 : Nat) : Int) = 3) = true from rfl]
    rw [show ∀ (st : (Option Paper × Unit) → Int → R (Fl (Option Paper × Unit) (Option Paper × Unit) Bool)) (z : Option Paper × Unit), forR st [] z = .ok (.inl z) from fun _ _ => rfl, okb, contR_inl]
    obtain ⟨ps, ee, hps⟩ := papers_ok (k := cutL dr (some 5) none) g AW (cut5 (by have := N1.1; omega))
    simp only [gapR]
    rw [appR_ok (by omega), okb, ee, okb, catR_ok (by simp; omega), okb]
    refine for_goal (fun i (s : Unit) => True) (fun (m : R (Fl (List (Option Paper) × Unit) (List (Option Paper) × Unit) Bool)) => ∃ s', m = R.ok (Fl.nx s') ∧ s'.1.length = i + 1) trivial (fun j s3 x3 hx3 _ => ?_) fun s3 _ => ⟨_, rfl, by simp [hs]⟩
    obtain ⟨b, h1, h2⟩ := says_jw (bar := bar) (p := x3) g
    have h3 := (says_same (says_law (bar := bar) (p := x3) g) ⟨b, h1, h2⟩).trans h1
    rw [h1, okb, h3, okb, same_bool, decide_eq_true rfl, notR_ok, Bool.not_true, orR_f]
    cases b with
    | false => exact ⟨(), rfl, trivial⟩
    | true =>
      obtain ⟨q, rfl, AQ⟩ := h2.mp rfl
      have := (AQ.least g).eq LW
      simp only [andR_t, id, optR_some, okb]
      rw [decide_eq_true this]
      exact ⟨(), rfl, trivial⟩
end K73
end
section
set_option maxRecDepth 100000
set_option maxHeartbeats 4000000
namespace K73
open PySem PySem.Spec PyProof.Rows L2 LamX Tr

theorem all_mk (hlaw : ∀ ns : List Int, ns.length ≤ 63 → m_law (ns, ()) = .ok true) {l : PySem.W.OpenLaw} {q : Program} {loose : List Str} {mean : ExcName → Option Value} {w : World} {K : PySem.W.Frag} {h : Heap} {mg mb : Str → Option Value} {fa : Addr} (Tp : Top q (PySem.W.looseW q loose) mean mg mb h) (X : K.In h) (G : h.Ns mainGlobals mg) (hfa : mg "law" = some (.ref fa))
    {od0 an0 : Option Addr} {sl0 : Array (Option Value)} {oc0 kV0 dc0 pm0 cd0 ct0 : Value} {f0 : Addr}
    (a0 : PySem.W.nsIn K mainGlobals "sum_of" = some (some (.ref f0))) (l0 : K.lookup f0 = some ⟨oc0, od0, .func (PySem.W.fnOf "sum_of" "sum_of" (defArgs s_sum_of) (defBody s_sum_of) (defScope s_sum_of) .none kV0 dc0 pm0 an0 cd0 ct0), sl0⟩) (c_0 : PySem.W.codeIn K cd0 "sum_of" = true) (k0 : PySem.W.keepIn K (.ref f0) = true)
    {od1 an1 : Option Addr} {sl1 : Array (Option Value)} {oc1 kV1 dc1 pm1 cd1 ct1 : Value} {f1 : Addr}
    (a1 : PySem.W.nsIn K mainGlobals "are_numbers" = some (some (.ref f1))) (l1 : K.lookup f1 = some ⟨oc1, od1, .func (PySem.W.fnOf "are_numbers" "are_numbers" (defArgs s_are_numbers) (defBody s_are_numbers) (defScope s_are_numbers) .none kV1 dc1 pm1 an1 cd1 ct1), sl1⟩) (c_1 : PySem.W.codeIn K cd1 "are_numbers" = true) (k1 : PySem.W.keepIn K (.ref f1) = true)
    {od2 an2 : Option Addr} {sl2 : Array (Option Value)} {oc2 kV2 dc2 pm2 cd2 ct2 : Value} {f2 : Addr}
    (a2 : PySem.W.nsIn K mainGlobals "with_one" = some (some (.ref f2))) (l2 : K.lookup f2 = some ⟨oc2, od2, .func (PySem.W.fnOf "with_one" "with_one" (defArgs s_with_one) (defBody s_with_one) (defScope s_with_one) .none kV2 dc2 pm2 an2 cd2 ct2), sl2⟩) (c_2 : PySem.W.codeIn K cd2 "with_one" = true) (k2 : PySem.W.keepIn K (.ref f2) = true)
    {od3 an3 : Option Addr} {sl3 : Array (Option Value)} {oc3 kV3 dc3 pm3 ct3 : Value} {f3 c3 P3 : Addr}
    (a3 : PySem.W.nsIn K mainGlobals "nearest" = some (some (.ref f3))) (l3 : K.lookup f3 = some ⟨oc3, od3, .func (PySem.W.fnOf "nearest" "nearest" (defArgs s_nearest) (defBody s_nearest) (defScope s_nearest) .none kV3 dc3 pm3 an3 (.ref c3) ct3), sl3⟩) (c_3 : PySem.W.codeIn K (.ref c3) "nearest" = true) (k3 : PySem.W.keepIn K (.ref f3) = true)
    (t3 : PySem.W.tabIn K "nearest" = some (c3, P3)) (n3 : K.lookup P3 = none) {dr3 : DefRec} (d3 : (recsOf q).find? (fun e => e.name == PySem.Str.ofString "nearest") = some dr3)
    {od4 an4 : Option Addr} {sl4 : Array (Option Value)} {oc4 kV4 dc4 pm4 cd4 ct4 : Value} {f4 : Addr}
    (a4 : PySem.W.nsIn K mainGlobals "find_cuts" = some (some (.ref f4))) (l4 : K.lookup f4 = some ⟨oc4, od4, .func (PySem.W.fnOf "find_cuts" "find_cuts" (defArgs s_find_cuts) (defBody s_find_cuts) (defScope s_find_cuts) .none kV4 dc4 pm4 an4 cd4 ct4), sl4⟩) (c_4 : PySem.W.codeIn K cd4 "find_cuts" = true) (k4 : PySem.W.keepIn K (.ref f4) = true)
    {od5 an5 : Option Addr} {sl5 : Array (Option Value)} {oc5 kV5 dc5 pm5 cd5 ct5 : Value} {f5 : Addr}
    (a5 : PySem.W.nsIn K mainGlobals "is_item" = some (some (.ref f5))) (l5 : K.lookup f5 = some ⟨oc5, od5, .func (PySem.W.fnOf "is_item" "is_item" (defArgs s_is_item) (defBody s_is_item) (defScope s_is_item) .none kV5 dc5 pm5 an5 cd5 ct5), sl5⟩) (c_5 : PySem.W.codeIn K cd5 "is_item" = true) (k5 : PySem.W.keepIn K (.ref f5) = true)
    {od6 an6 : Option Addr} {sl6 : Array (Option Value)} {oc6 kV6 dc6 pm6 cd6 ct6 : Value} {f6 : Addr}
    (a6 : PySem.W.nsIn K mainGlobals "judge_cuts" = some (some (.ref f6))) (l6 : K.lookup f6 = some ⟨oc6, od6, .func (PySem.W.fnOf "judge_cuts" "judge_cuts" (defArgs s_judge_cuts) (defBody s_judge_cuts) (defScope s_judge_cuts) .none kV6 dc6 pm6 an6 cd6 ct6), sl6⟩) (c_6 : PySem.W.codeIn K cd6 "judge_cuts" = true) (k6 : PySem.W.keepIn K (.ref f6) = true)
    {od7 an7 : Option Addr} {sl7 : Array (Option Value)} {oc7 kV7 dc7 pm7 cd7 ct7 : Value} {f7 : Addr}
    (a7 : PySem.W.nsIn K mainGlobals "told_by" = some (some (.ref f7))) (l7 : K.lookup f7 = some ⟨oc7, od7, .func (PySem.W.fnOf "told_by" "told_by" (defArgs s_told_by) (defBody s_told_by) (defScope s_told_by) .none kV7 dc7 pm7 an7 cd7 ct7), sl7⟩) (c_7 : PySem.W.codeIn K cd7 "told_by" = true) (k7 : PySem.W.keepIn K (.ref f7) = true)
    {od8 an8 : Option Addr} {sl8 : Array (Option Value)} {oc8 kV8 dc8 pm8 cd8 ct8 : Value} {f8 : Addr}
    (a8 : PySem.W.nsIn K mainGlobals "find_waste" = some (some (.ref f8))) (l8 : K.lookup f8 = some ⟨oc8, od8, .func (PySem.W.fnOf "find_waste" "find_waste" (defArgs s_find_waste) (defBody s_find_waste) (defScope s_find_waste) .none kV8 dc8 pm8 an8 cd8 ct8), sl8⟩) (c_8 : PySem.W.codeIn K cd8 "find_waste" = true) (k8 : PySem.W.keepIn K (.ref f8) = true)
    {od9 an9 : Option Addr} {sl9 : Array (Option Value)} {oc9 kV9 dc9 pm9 cd9 ct9 : Value} {f9 : Addr}
    (a9 : PySem.W.nsIn K mainGlobals "judge_waste" = some (some (.ref f9))) (l9 : K.lookup f9 = some ⟨oc9, od9, .func (PySem.W.fnOf "judge_waste" "judge_waste" (defArgs s_judge_waste) (defBody s_judge_waste) (defScope s_judge_waste) .none kV9 dc9 pm9 an9 cd9 ct9), sl9⟩) (c_9 : PySem.W.codeIn K cd9 "judge_waste" = true) (k9 : PySem.W.keepIn K (.ref f9) = true)
    {od10 an10 : Option Addr} {sl10 : Array (Option Value)} {oc10 kV10 dc10 pm10 cd10 ct10 : Value} {f10 : Addr}
    (a10 : PySem.W.nsIn K mainGlobals "_law_cell" = some (some (.ref f10))) (l10 : K.lookup f10 = some ⟨oc10, od10, .func (PySem.W.fnOf "_law_cell" "_law_cell" (defArgs s__law_cell) (defBody s__law_cell) (defScope s__law_cell) .none kV10 dc10 pm10 an10 cd10 ct10), sl10⟩) (c_10 : PySem.W.codeIn K cd10 "_law_cell" = true) (k10 : PySem.W.keepIn K (.ref f10) = true)
    {od11 an11 : Option Addr} {sl11 : Array (Option Value)} {oc11 kV11 dc11 pm11 cd11 ct11 : Value} {f11 : Addr}
    (a11 : PySem.W.nsIn K mainGlobals "_law_numbers" = some (some (.ref f11))) (l11 : K.lookup f11 = some ⟨oc11, od11, .func (PySem.W.fnOf "_law_numbers" "_law_numbers" (defArgs s__law_numbers) (defBody s__law_numbers) (defScope s__law_numbers) .none kV11 dc11 pm11 an11 cd11 ct11), sl11⟩) (c_11 : PySem.W.codeIn K cd11 "_law_numbers" = true) (k11 : PySem.W.keepIn K (.ref f11) = true)
    {od12 an12 : Option Addr} {sl12 : Array (Option Value)} {oc12 kV12 dc12 pm12 cd12 ct12 : Value} {f12 : Addr}
    (a12 : PySem.W.nsIn K mainGlobals "_law_same" = some (some (.ref f12))) (l12 : K.lookup f12 = some ⟨oc12, od12, .func (PySem.W.fnOf "_law_same" "_law_same" (defArgs s__law_same) (defBody s__law_same) (defScope s__law_same) .none kV12 dc12 pm12 an12 cd12 ct12), sl12⟩) (c_12 : PySem.W.codeIn K cd12 "_law_same" = true) (k12 : PySem.W.keepIn K (.ref f12) = true)
    {od13 an13 : Option Addr} {sl13 : Array (Option Value)} {oc13 kV13 dc13 pm13 cd13 ct13 : Value} {f13 : Addr}
    (a13 : PySem.W.nsIn K mainGlobals "_law_lengths" = some (some (.ref f13))) (l13 : K.lookup f13 = some ⟨oc13, od13, .func (PySem.W.fnOf "_law_lengths" "_law_lengths" (defArgs s__law_lengths) (defBody s__law_lengths) (defScope s__law_lengths) .none kV13 dc13 pm13 an13 cd13 ct13), sl13⟩) (c_13 : PySem.W.codeIn K cd13 "_law_lengths" = true) (k13 : PySem.W.keepIn K (.ref f13) = true)
    {od14 an14 : Option Addr} {sl14 : Array (Option Value)} {oc14 kV14 dc14 pm14 cd14 ct14 : Value} {f14 : Addr}
    (a14 : PySem.W.nsIn K mainGlobals "_law_labels" = some (some (.ref f14))) (l14 : K.lookup f14 = some ⟨oc14, od14, .func (PySem.W.fnOf "_law_labels" "_law_labels" (defArgs s__law_labels) (defBody s__law_labels) (defScope s__law_labels) .none kV14 dc14 pm14 an14 cd14 ct14), sl14⟩) (c_14 : PySem.W.codeIn K cd14 "_law_labels" = true) (k14 : PySem.W.keepIn K (.ref f14) = true)
    {od15 an15 : Option Addr} {sl15 : Array (Option Value)} {oc15 kV15 dc15 pm15 cd15 ct15 : Value} {f15 : Addr}
    (a15 : PySem.W.nsIn K mainGlobals "_law_sum_of" = some (some (.ref f15))) (l15 : K.lookup f15 = some ⟨oc15, od15, .func (PySem.W.fnOf "_law_sum_of" "_law_sum_of" (defArgs s__law_sum_of) (defBody s__law_sum_of) (defScope s__law_sum_of) .none kV15 dc15 pm15 an15 cd15 ct15), sl15⟩) (c_15 : PySem.W.codeIn K cd15 "_law_sum_of" = true) (k15 : PySem.W.keepIn K (.ref f15) = true)
    {od16 an16 : Option Addr} {sl16 : Array (Option Value)} {oc16 kV16 dc16 pm16 cd16 ct16 : Value} {f16 : Addr}
    (a16 : PySem.W.nsIn K mainGlobals "_law_are_numbers" = some (some (.ref f16))) (l16 : K.lookup f16 = some ⟨oc16, od16, .func (PySem.W.fnOf "_law_are_numbers" "_law_are_numbers" (defArgs s__law_are_numbers) (defBody s__law_are_numbers) (defScope s__law_are_numbers) .none kV16 dc16 pm16 an16 cd16 ct16), sl16⟩) (c_16 : PySem.W.codeIn K cd16 "_law_are_numbers" = true) (k16 : PySem.W.keepIn K (.ref f16) = true)
    {od17 an17 : Option Addr} {sl17 : Array (Option Value)} {oc17 kV17 dc17 pm17 cd17 ct17 : Value} {f17 : Addr}
    (a17 : PySem.W.nsIn K mainGlobals "_law_accepts_table" = some (some (.ref f17))) (l17 : K.lookup f17 = some ⟨oc17, od17, .func (PySem.W.fnOf "_law_accepts_table" "_law_accepts_table" (defArgs s__law_accepts_table) (defBody s__law_accepts_table) (defScope s__law_accepts_table) .none kV17 dc17 pm17 an17 cd17 ct17), sl17⟩) (c_17 : PySem.W.codeIn K cd17 "_law_accepts_table" = true) (k17 : PySem.W.keepIn K (.ref f17) = true)
    {od18 an18 : Option Addr} {sl18 : Array (Option Value)} {oc18 kV18 dc18 pm18 cd18 ct18 : Value} {f18 : Addr}
    (a18 : PySem.W.nsIn K mainGlobals "_law_told_cut" = some (some (.ref f18))) (l18 : K.lookup f18 = some ⟨oc18, od18, .func (PySem.W.fnOf "_law_told_cut" "_law_told_cut" (defArgs s__law_told_cut) (defBody s__law_told_cut) (defScope s__law_told_cut) .none kV18 dc18 pm18 an18 cd18 ct18), sl18⟩) (c_18 : PySem.W.codeIn K cd18 "_law_told_cut" = true) (k18 : PySem.W.keepIn K (.ref f18) = true)
    {od19 an19 : Option Addr} {sl19 : Array (Option Value)} {oc19 kV19 dc19 pm19 cd19 ct19 : Value} {f19 : Addr}
    (a19 : PySem.W.nsIn K mainGlobals "_law_bent_tables" = some (some (.ref f19))) (l19 : K.lookup f19 = some ⟨oc19, od19, .func (PySem.W.fnOf "_law_bent_tables" "_law_bent_tables" (defArgs s__law_bent_tables) (defBody s__law_bent_tables) (defScope s__law_bent_tables) .none kV19 dc19 pm19 an19 cd19 ct19), sl19⟩) (c_19 : PySem.W.codeIn K cd19 "_law_bent_tables" = true) (k19 : PySem.W.keepIn K (.ref f19) = true)
    {od20 an20 : Option Addr} {sl20 : Array (Option Value)} {oc20 kV20 dc20 pm20 cd20 ct20 : Value} {f20 : Addr}
    (a20 : PySem.W.nsIn K mainGlobals "_law_accepts" = some (some (.ref f20))) (l20 : K.lookup f20 = some ⟨oc20, od20, .func (PySem.W.fnOf "_law_accepts" "_law_accepts" (defArgs s__law_accepts) (defBody s__law_accepts) (defScope s__law_accepts) .none kV20 dc20 pm20 an20 cd20 ct20), sl20⟩) (c_20 : PySem.W.codeIn K cd20 "_law_accepts" = true) (k20 : PySem.W.keepIn K (.ref f20) = true)
    {od21 an21 : Option Addr} {sl21 : Array (Option Value)} {oc21 kV21 dc21 pm21 cd21 ct21 : Value} {f21 : Addr}
    (a21 : PySem.W.nsIn K mainGlobals "_law_papers" = some (some (.ref f21))) (l21 : K.lookup f21 = some ⟨oc21, od21, .func (PySem.W.fnOf "_law_papers" "_law_papers" (defArgs s__law_papers) (defBody s__law_papers) (defScope s__law_papers) .none kV21 dc21 pm21 an21 cd21 ct21), sl21⟩) (c_21 : PySem.W.codeIn K cd21 "_law_papers" = true) (k21 : PySem.W.keepIn K (.ref f21) = true)
    {od22 an22 : Option Addr} {sl22 : Array (Option Value)} {oc22 kV22 dc22 pm22 cd22 ct22 : Value} {f22 : Addr}
    (a22 : PySem.W.nsIn K mainGlobals "law" = some (some (.ref f22))) (l22 : K.lookup f22 = some ⟨oc22, od22, .func (PySem.W.fnOf "law" "law" (defArgs s_law) (defBody s_law) (defScope s_law) .none kV22 dc22 pm22 an22 cd22 ct22), sl22⟩) (c_22 : PySem.W.codeIn K cd22 "law" = true) (k22 : PySem.W.keepIn K (.ref f22) = true)
    (z_all : PySem.W.nsIn K mainGlobals "all" = some none)
    (z_any : PySem.W.nsIn K mainGlobals "any" = some none)
    (z_bool : PySem.W.nsIn K mainGlobals "bool" = some none)
    (z_enumerate : PySem.W.nsIn K mainGlobals "enumerate" = some none)
    (z_int : PySem.W.nsIn K mainGlobals "int" = some none)
    (z_isinstance : PySem.W.nsIn K mainGlobals "isinstance" = some none)
    (z_len : PySem.W.nsIn K mainGlobals "len" = some none)
    (z_list : PySem.W.nsIn K mainGlobals "list" = some none)
    (z_max : PySem.W.nsIn K mainGlobals "max" = some none)
    (z_min : PySem.W.nsIn K mainGlobals "min" = some none)
    (z_range : PySem.W.nsIn K mainGlobals "range" = some none)
    (z_sorted : PySem.W.nsIn K mainGlobals "sorted" = some none)
    (z_sum : PySem.W.nsIn K mainGlobals "sum" = some none)
    (z_tuple : PySem.W.nsIn K mainGlobals "tuple" = some none)
    (z_zip : PySem.W.nsIn K mainGlobals "zip" = some none)
    : LawAtS l w K (fun _ _ _ _ _ _ => False) 7 63 "script" mg fa h := by
  have e := hfa.symm.trans (PySem.W.mg_of X G a22)
  cases e
  obtain ⟨C3, Q3⟩ := PySem.W.tab_of Tp X d3 t3
  letI hasT : HasT := ⟨[(P3, ("nearest" : Str) ++ ".<locals>." ++ "<lambda>")]⟩
  refine ⟨PySem.W.fnOf "law" "law" (defArgs s_law) (defBody s_law) (defScope s_law) .none kV22 dc22 pm22 an22 cd22 ct22, [(c3, P3)], spO K mg (aCons (tSeq tInt) aNil) (kE tBool) m_law, List.forall_mem_cons.mpr ⟨Q3, List.forall_mem_nil _⟩, List.forall_mem_cons.mpr ⟨n3, List.forall_mem_nil _⟩, List.forall_mem_cons.mpr ⟨C3, List.forall_mem_nil _⟩, fun s v => .of_eq rfl, fun H a ns hl _ hT hS => law_at (hlaw ns hl) ?_ hS, fun base KB GB TB => ?_⟩
  · intro p hp
    have hp : p ∈ ([(P3, ("nearest" : Str) ++ ".<locals>." ++ "<lambda>")] : List (Addr × Str)) := hp
    simp only [List.mem_cons, List.not_mem_nil, or_false] at hp
    rcases hp with rfl
    · exact ⟨#[], hT (c3, P3) (by simp), trivial, fun pos cv hc => nomatch (show (none : Option Value) = some cv from hc)⟩
  · have Tx : Txt K mg base := {
      f_sum_of := ⟨f0, _, PySem.W.mg_of X G a0, (fun_mk (st := s_sum_of) l0 c_0 k0), (fun_mk (st := s_sum_of) l0 c_0 k0).binds (ps := ["lengths", "numbers"]) fun _ _ _ _ _ _ us hl => match us, hl with | [_, _], _ => rfl⟩
      f_are_numbers := ⟨f1, _, PySem.W.mg_of X G a1, (fun_mk (st := s_are_numbers) l1 c_1 k1), (fun_mk (st := s_are_numbers) l1 c_1 k1).binds (ps := ["lengths", "numbers", "goal"]) fun _ _ _ _ _ _ us hl => match us, hl with | [_, _, _], _ => rfl⟩
      f_with_one := ⟨f2, _, PySem.W.mg_of X G a2, (fun_mk (st := s_with_one) l2 c_2 k2), (fun_mk (st := s_with_one) l2 c_2 k2).binds (ps := ["numbers", "kind"]) fun _ _ _ _ _ _ us hl => match us, hl with | [_, _], _ => rfl⟩
      f_nearest := ⟨f3, _, c3, PySem.W.mg_of X G a3, ⟨⟨_, _, _, _, _, _, _, _, rfl, l3, c_3⟩, k3, P3, TB (c3, P3) (by simp), (show (P3, _) ∈ ([(P3, ("nearest" : Str) ++ ".<locals>." ++ "<lambda>")] : List (Addr × Str)) by simp), fun p hp he => by
        have hp : p ∈ ([(P3, ("nearest" : Str) ++ ".<locals>." ++ "<lambda>")] : List (Addr × Str)) := hp
        rw [List.mem_singleton.mp hp]⟩, (fun_mk (st := s_nearest) l3 c_3 k3).binds (ps := ["table", "settled"]) fun _ _ _ _ _ _ us hl => match us, hl with | [_, _], _ => rfl⟩
      f_find_cuts := ⟨f4, _, PySem.W.mg_of X G a4, (fun_mk (st := s_find_cuts) l4 c_4 k4), (fun_mk (st := s_find_cuts) l4 c_4 k4).binds (ps := ["lengths"]) fun _ _ _ _ _ _ us hl => match us, hl with | [_], _ => rfl⟩
      f_is_item := ⟨f5, _, PySem.W.mg_of X G a5, (fun_mk (st := s_is_item) l5 c_5 k5), (fun_mk (st := s_is_item) l5 c_5 k5).binds (ps := ["lengths", "table", "remainder"]) fun _ _ _ _ _ _ us hl => match us, hl with | [_, _, _], _ => rfl⟩
      f_judge_cuts := ⟨f6, _, PySem.W.mg_of X G a6, (fun_mk (st := s_judge_cuts) l6 c_6 k6), (fun_mk (st := s_judge_cuts) l6 c_6 k6).binds (ps := ["lengths", "table"]) fun _ _ _ _ _ _ us hl => match us, hl with | [_, _], _ => rfl⟩
      f_told_by := ⟨f7, _, PySem.W.mg_of X G a7, (fun_mk (st := s_told_by) l7 c_7 k7), (fun_mk (st := s_told_by) l7 c_7 k7).binds (ps := ["table", "length"]) fun _ _ _ _ _ _ us hl => match us, hl with | [_, _], _ => rfl⟩
      f_find_waste := ⟨f8, _, PySem.W.mg_of X G a8, (fun_mk (st := s_find_waste) l8 c_8 k8), (fun_mk (st := s_find_waste) l8 c_8 k8).binds (ps := ["lengths", "bar"]) fun _ _ _ _ _ _ us hl => match us, hl with | [_, _], _ => rfl⟩
      f_judge_waste := ⟨f9, _, PySem.W.mg_of X G a9, (fun_mk (st := s_judge_waste) l9 c_9 k9), (fun_mk (st := s_judge_waste) l9 c_9 k9).binds (ps := ["lengths", "bar", "paper"]) fun _ _ _ _ _ _ us hl => match us, hl with | [_, _, _], _ => rfl⟩
      f__law_cell := ⟨f10, _, PySem.W.mg_of X G a10, (fun_mk (st := s__law_cell) l10 c_10 k10), (fun_mk (st := s__law_cell) l10 c_10 k10).binds (ps := ["script", "k"]) fun _ _ _ _ _ _ us hl => match us, hl with | [_, _], _ => rfl⟩
      f__law_numbers := ⟨f11, _, PySem.W.mg_of X G a11, (fun_mk (st := s__law_numbers) l11 c_11 k11), (fun_mk (st := s__law_numbers) l11 c_11 k11).binds (ps := ["cell", "count", "limit"]) fun _ _ _ _ _ _ us hl => match us, hl with | [_, _, _], _ => rfl⟩
      f__law_same := ⟨f12, _, PySem.W.mg_of X G a12, (fun_mk (st := s__law_same) l12 c_12 k12), (fun_mk (st := s__law_same) l12 c_12 k12).binds (ps := ["told", "due"]) fun _ _ _ _ _ _ us hl => match us, hl with | [_, _], _ => rfl⟩
      f__law_lengths := ⟨f13, _, PySem.W.mg_of X G a13, (fun_mk (st := s__law_lengths) l13 c_13 k13), (fun_mk (st := s__law_lengths) l13 c_13 k13).binds (ps := ["script", "at"]) fun _ _ _ _ _ _ us hl => match us, hl with | [_, _], _ => rfl⟩
      f__law_labels := ⟨f14, _, PySem.W.mg_of X G a14, (fun_mk (st := s__law_labels) l14 c_14 k14), (fun_mk (st := s__law_labels) l14 c_14 k14).binds (ps := ["lengths"]) fun _ _ _ _ _ _ us hl => match us, hl with | [_], _ => rfl⟩
      f__law_sum_of := ⟨f15, _, PySem.W.mg_of X G a15, (fun_mk (st := s__law_sum_of) l15 c_15 k15), (fun_mk (st := s__law_sum_of) l15 c_15 k15).binds (ps := ["lengths", "numbers"]) fun _ _ _ _ _ _ us hl => match us, hl with | [_, _], _ => rfl⟩
      f__law_are_numbers := ⟨f16, _, PySem.W.mg_of X G a16, (fun_mk (st := s__law_are_numbers) l16 c_16 k16), (fun_mk (st := s__law_are_numbers) l16 c_16 k16).binds (ps := ["lengths", "numbers", "goal"]) fun _ _ _ _ _ _ us hl => match us, hl with | [_, _, _], _ => rfl⟩
      f__law_accepts_table := ⟨f17, _, PySem.W.mg_of X G a17, (fun_mk (st := s__law_accepts_table) l17 c_17 k17), (fun_mk (st := s__law_accepts_table) l17 c_17 k17).binds (ps := ["lengths", "table"]) fun _ _ _ _ _ _ us hl => match us, hl with | [_, _], _ => rfl⟩
      f__law_told_cut := ⟨f18, _, PySem.W.mg_of X G a18, (fun_mk (st := s__law_told_cut) l18 c_18 k18), (fun_mk (st := s__law_told_cut) l18 c_18 k18).binds (ps := ["table", "length"]) fun _ _ _ _ _ _ us hl => match us, hl with | [_, _], _ => rfl⟩
      f__law_bent_tables := ⟨f19, _, PySem.W.mg_of X G a19, (fun_mk (st := s__law_bent_tables) l19 c_19 k19), (fun_mk (st := s__law_bent_tables) l19 c_19 k19).binds (ps := ["lengths", "table", "draws"]) fun _ _ _ _ _ _ us hl => match us, hl with | [_, _, _], _ => rfl⟩
      f__law_accepts := ⟨f20, _, PySem.W.mg_of X G a20, (fun_mk (st := s__law_accepts) l20 c_20 k20), (fun_mk (st := s__law_accepts) l20 c_20 k20).binds (ps := ["lengths", "bar", "paper"]) fun _ _ _ _ _ _ us hl => match us, hl with | [_, _, _], _ => rfl⟩
      f__law_papers := ⟨f21, _, PySem.W.mg_of X G a21, (fun_mk (st := s__law_papers) l21 c_21 k21), (fun_mk (st := s__law_papers) l21 c_21 k21).binds (ps := ["lengths", "paper", "draws"]) fun _ _ _ _ _ _ us hl => match us, hl with | [_, _, _], _ => rfl⟩
      f_law := ⟨fa, _, PySem.W.mg_of X G a22, (fun_mk (st := s_law) l22 c_22 k22), (fun_mk (st := s_law) l22 c_22 k22).binds (ps := ["script"]) fun _ _ _ _ _ _ us hl => match us, hl with | [_], _ => rfl⟩
      n_all := PySem.W.mg_none_of X G z_all
      n_any := PySem.W.mg_none_of X G z_any
      n_bool := PySem.W.mg_none_of X G z_bool
      n_enumerate := PySem.W.mg_none_of X G z_enumerate
      n_int := PySem.W.mg_none_of X G z_int
      n_isinstance := PySem.W.mg_none_of X G z_isinstance
      n_len := PySem.W.mg_none_of X G z_len
      n_list := PySem.W.mg_none_of X G z_list
      n_max := PySem.W.mg_none_of X G z_max
      n_min := PySem.W.mg_none_of X G z_min
      n_range := PySem.W.mg_none_of X G z_range
      n_sorted := PySem.W.mg_none_of X G z_sorted
      n_sum := PySem.W.mg_none_of X G z_sum
      n_tuple := PySem.W.mg_none_of X G z_tuple
      n_zip := PySem.W.mg_none_of X G z_zip }
    exact fn_ok (fun_mk (st := s_law) l22 c_22 k22) sc_law (ae_cons ae_nil) rfl (fun _ => rfl) (fun cdv A outer s H E hr x => (p_law x).2 Tx fa cdv A outer s H E hr)
end K73
end
section
set_option maxRecDepth 100000
namespace K73
open Tr

end K73
open PySem PySem.W PyProof.Rows
set_option maxHeartbeats 0 in
theorem PySem.Challenge.cw_piecesturned_k73_whole_bars_cut_with_lea_holds : PySem.Challenge.rw_piecesturned_k73_whole_bars_cut_with_lea.Holds := by
  w_on; o_law; k_head; (case hw => w_witness2)
  k_fill
  refine Tr.walk_T (l := PySem.Challenge.rw_piecesturned_k73_whole_bars_cut_with_lea) (n := 63) (k := 7) (x := "script") rfl (by decide) rfl ⟨rfl, by decide, by decide⟩ (fun w h Y => PySem.W.km_in_of Y) ?F
  case F =>
    intro w mg mb mean fa h Tp KX G hmg
    refine' K73.all_mk (P3 := 31) K73.law_true Tp KX G hmg ?a0 ?l0 ?c_0 ?k0 ?a1 ?l1 ?c_1 ?k1 ?a2 ?l2 ?c_2 ?k2 ?a3 ?l3 ?c_3 ?k3 ?t3 ?n3 ?d3 ?a4 ?l4 ?c_4 ?k4 ?a5 ?l5 ?c_5 ?k5 ?a6 ?l6 ?c_6 ?k6 ?a7 ?l7 ?c_7 ?k7 ?a8 ?l8 ?c_8 ?k8 ?a9 ?l9 ?c_9 ?k9 ?a10 ?l10 ?c_10 ?k10 ?a11 ?l11 ?c_11 ?k11 ?a12 ?l12 ?c_12 ?k12 ?a13 ?l13 ?c_13 ?k13 ?a14 ?l14 ?c_14 ?k14 ?a15 ?l15 ?c_15 ?k15 ?a16 ?l16 ?c_16 ?k16 ?a17 ?l17 ?c_17 ?k17 ?a18 ?l18 ?c_18 ?k18 ?a19 ?l19 ?c_19 ?k19 ?a20 ?l20 ?c_20 ?k20 ?a21 ?l21 ?c_21 ?k21 ?a22 ?l22 ?c_22 ?k22 ?z_all ?z_any ?z_bool ?z_enumerate ?z_int ?z_isinstance ?z_len ?z_list ?z_max ?z_min ?z_range ?z_sorted ?z_sum ?z_tuple ?z_zip
    (case a0 => k_is)
    (case l0 => k_is)
    (case c_0 => k_is)
    (case k0 => k_is)
    (case a1 => k_is)
    (case l1 => k_is)
    (case c_1 => k_is)
    (case k1 => k_is)
    (case a2 => k_is)
    (case l2 => k_is)
    (case c_2 => k_is)
    (case k2 => k_is)
    (case a3 => k_is)
    (case l3 => k_is)
    (case c_3 => k_is)
    (case k3 => k_is)
    (case t3 => kernel_rfl)
    (case n3 => kernel_rfl)
    (case d3 => rfl)
    (case a4 => k_is)
    (case l4 => k_is)
    (case c_4 => k_is)
    (case k4 => k_is)
    (case a5 => k_is)
    (case l5 => k_is)
    (case c_5 => k_is)
    (case k5 => k_is)
    (case a6 => k_is)
    (case l6 => k_is)
    (case c_6 => k_is)
    (case k6 => k_is)
    (case a7 => k_is)
    (case l7 => k_is)
    (case c_7 => k_is)
    (case k7 => k_is)
    (case a8 => k_is)
    (case l8 => k_is)
    (case c_8 => k_is)
    (case k8 => k_is)
    (case a9 => k_is)
    (case l9 => k_is)
    (case c_9 => k_is)
    (case k9 => k_is)
    (case a10 => k_is)
    (case l10 => k_is)
    (case c_10 => k_is)
    (case k10 => k_is)
    (case a11 => k_is)
    (case l11 => k_is)
    (case c_11 => k_is)
    (case k11 => k_is)
    (case a12 => k_is)
    (case l12 => k_is)
    (case c_12 => k_is)
    (case k12 => k_is)
    (case a13 => k_is)
    (case l13 => k_is)
    (case c_13 => k_is)
    (case k13 => k_is)
    (case a14 => k_is)
    (case l14 => k_is)
    (case c_14 => k_is)
    (case k14 => k_is)
    (case a15 => k_is)
    (case l15 => k_is)
    (case c_15 => k_is)
    (case k15 => k_is)
    (case a16 => k_is)
    (case l16 => k_is)
    (case c_16 => k_is)
    (case k16 => k_is)
    (case a17 => k_is)
    (case l17 => k_is)
    (case c_17 => k_is)
    (case k17 => k_is)
    (case a18 => k_is)
    (case l18 => k_is)
    (case c_18 => k_is)
    (case k18 => k_is)
    (case a19 => k_is)
    (case l19 => k_is)
    (case c_19 => k_is)
    (case k19 => k_is)
    (case a20 => k_is)
    (case l20 => k_is)
    (case c_20 => k_is)
    (case k20 => k_is)
    (case a21 => k_is)
    (case l21 => k_is)
    (case c_21 => k_is)
    (case k21 => k_is)
    (case a22 => k_is)
    (case l22 => k_is)
    (case c_22 => k_is)
    (case k22 => k_is)
    (case z_all => k_is)
    (case z_any => k_is)
    (case z_bool => k_is)
    (case z_enumerate => k_is)
    (case z_int => k_is)
    (case z_isinstance => k_is)
    (case z_len => k_is)
    (case z_list => k_is)
    (case z_max => k_is)
    (case z_min => k_is)
    (case z_range => k_is)
    (case z_sorted => k_is)
    (case z_sum => k_is)
    (case z_tuple => k_is)
    (case z_zip => k_is)
end
