import PyProof.Rows.All
import Wide.All
import OpenK.AllK
import Wide.FinOn
import HandS.ForMost
import HandS.ForExc
import HandS.ExcInit
import HandS.ExcField
import HandS.IsInst
import HandS.DictComp
import HandS.Zip
import HandS.Wide
import HandS.Style
import HandS.Flow
import HandS.Conv
import HandS.Set
import HandS.ClsMeth
import HandS.TryMany
import HandS.SetFor
import HandS.TupSets
import HandS.DictTup
import KE.KTupSum
import KE.SortData
import HandS.TryOnly
import KE.KDictPairs
import HandS.Defaults
import PyProof.ReprRoads
import PySem.Challenge.RW_cutpatch_k81_whole_possible_and_between
set_option Elab.async false
set_option linter.all false
set_option maxRecDepth 100000
set_option maxHeartbeats 4000000
/-! Cp1: data told by the heap, environments of slots, readings run over environments. -/
namespace Cp
open PySem PySem.Spec PyProof.Rows L2

/-! ## data -/
inductive Dt where
  | non | bl (b : Bool) | int (i : Int) | str (s : Str)
  | lst (l : List Dt) | tup (l : List Dt)
  | sq (l : List Dt) | sqt (l : List Dt)
  | dk (l : List (Key × Dt)) | dt (l : List (List Key × Dt))

mutual
/-- v is the data d, as far as G tells -/
def Da (K : PySem.W.Frag) (G : Hp) : V → Dt → Prop
  | v, .non => v = .non
  | v, .bl b => v = .bl b
  | v, .int i => v = .int i
  | v, .str s => v = .str s
  | v, .lst l => ∃ a xs, v = .ref a ∧ G a = some (.lst xs) ∧ DaL K G xs l
  | v, .tup l => ∃ a xs, v = .ref a ∧ G a = some (.tup xs) ∧ DaL K G xs l
  | v, .sq l => ∃ a xs, v = .ref a ∧ SqL K G a xs ∧ DaL K G xs l
  | v, .sqt l => ∃ a xs, v = .ref a ∧ SqT K G a xs ∧ DaL K G xs l
  | v, .dk l => ∃ a kvs, v = .ref a ∧ G a = some (.dK kvs) ∧ DaK K G kvs l
  | v, .dt l => ∃ a kvs, v = .ref a ∧ G a = some (.dT kvs) ∧ DaT K G kvs l
def DaL (K : PySem.W.Frag) (G : Hp) : List V → List Dt → Prop
  | xs, [] => xs = []
  | xs, d :: l => ∃ v vs, xs = v :: vs ∧ Da K G v d ∧ DaL K G vs l
def DaK (K : PySem.W.Frag) (G : Hp) : List (Key × V) → List (Key × Dt) → Prop
  | xs, [] => xs = []
  | xs, (k, d) :: l => ∃ v vs, xs = (k, v) :: vs ∧ Da K G v d ∧ DaK K G vs l
def DaT (K : PySem.W.Frag) (G : Hp) : List (List Key × V) → List (List Key × Dt) → Prop
  | xs, [] => xs = []
  | xs, (k, d) :: l => ∃ v vs, xs = (k, v) :: vs ∧ Da K G v d ∧ DaT K G vs l
end

theorem Same.tup {K : PySem.W.Frag} {H H' : Hp} {a : Addr} {xs : List V} (e : Same H H') (h : SqT K H a xs) : SqT K H' a xs := by
  rcases h with (q | ⟨o, q⟩) | q
  · exact .inl (.inl (e _ _ q))
  · exact .inl (.inr ⟨o, e _ _ q⟩)
  · exact .inr q

section
variable {K : PySem.W.Frag} {G G' : Hp}
mutual
theorem Da.up (e : Same G G') : ∀ {v : V} (d : Dt), Da K G v d → Da K G' v d
  | _, .non, h => h
  | _, .bl _, h => h
  | _, .int _, h => h
  | _, .str _, h => h
  | _, .lst l, ⟨a, xs, h1, h2, h3⟩ => ⟨a, xs, h1, e _ _ h2, DaL.up e l h3⟩
  | _, .tup l, ⟨a, xs, h1, h2, h3⟩ => ⟨a, xs, h1, e _ _ h2, DaL.up e l h3⟩
  | _, .sq l, ⟨a, xs, h1, h2, h3⟩ => ⟨a, xs, h1, Same.seq e h2, DaL.up e l h3⟩
  | _, .sqt l, ⟨a, xs, h1, h2, h3⟩ => ⟨a, xs, h1, Same.tup e h2, DaL.up e l h3⟩
  | _, .dk l, ⟨a, xs, h1, h2, h3⟩ => ⟨a, xs, h1, e _ _ h2, DaK.up e l h3⟩
  | _, .dt l, ⟨a, xs, h1, h2, h3⟩ => ⟨a, xs, h1, e _ _ h2, DaT.up e l h3⟩
theorem DaL.up (e : Same G G') : ∀ {xs : List V} (l : List Dt), DaL K G xs l → DaL K G' xs l
  | _, [], h => h
  | _, d :: l, ⟨v, vs, h1, h2, h3⟩ => ⟨v, vs, h1, Da.up e d h2, DaL.up e l h3⟩
theorem DaK.up (e : Same G G') : ∀ {xs : List (Key × V)} (l : List (Key × Dt)), DaK K G xs l → DaK K G' xs l
  | _, [], h => h
  | _, (_, d) :: l, ⟨v, vs, h1, h2, h3⟩ => ⟨v, vs, h1, Da.up e d h2, DaK.up e l h3⟩
theorem DaT.up (e : Same G G') : ∀ {xs : List (List Key × V)} (l : List (List Key × Dt)), DaT K G xs l → DaT K G' xs l
  | _, [], h => h
  | _, (_, d) :: l, ⟨v, vs, h1, h2, h3⟩ => ⟨v, vs, h1, Da.up e d h2, DaT.up e l h3⟩
end
theorem DaL.len : ∀ {l : List Dt} {xs : List V}, DaL K G xs l → xs.length = l.length
  | [], _, h => by cases h; rfl
  | _ :: _, _, ⟨_, _, e, _, h⟩ => by rw [e, List.length_cons, List.length_cons, DaL.len h]
theorem DaL.get : ∀ {l : List Dt} {xs : List V} {i : Nat} {d : Dt}, DaL K G xs l → l[i]? = some d → ∃ v, xs[i]? = some v ∧ Da K G v d
  | [], _, _, _, _, e => by simp at e
  | _ :: _, _, 0, _, ⟨v, vs, e1, h, _⟩, e => by
    rw [List.getElem?_cons_zero] at e
    cases e
    exact ⟨v, by rw [e1]; rfl, h⟩
  | _ :: _, _, i + 1, _, ⟨v, vs, e1, _, h⟩, e => by
    rw [List.getElem?_cons_succ] at e
    obtain ⟨u, q1, q2⟩ := DaL.get h e
    exact ⟨u, by rw [e1, List.getElem?_cons_succ]; exact q1, q2⟩
theorem DaL.getV : ∀ {l : List Dt} {xs : List V} {i : Nat} {v : V}, DaL K G xs l → xs[i]? = some v → ∃ d, l[i]? = some d ∧ Da K G v d
  | [], _, _, _, h, e => by cases h; simp at e
  | d :: _, _, 0, _, ⟨v, vs, e1, h, _⟩, e => by
    rw [e1, List.getElem?_cons_zero] at e
    cases e
    exact ⟨d, rfl, h⟩
  | _ :: _, _, i + 1, _, ⟨v, vs, e1, _, h⟩, e => by
    rw [e1, List.getElem?_cons_succ] at e
    obtain ⟨u, q1, q2⟩ := DaL.getV h e
    exact ⟨u, by rw [List.getElem?_cons_succ]; exact q1, q2⟩
theorem DaL.snoc : ∀ {l : List Dt} {xs : List V} {v : V} {d : Dt}, DaL K G xs l → Da K G v d → DaL K G (xs ++ [v]) (l ++ [d])
  | [], _, v, _, h, q => by
    cases h
    exact ⟨v, [], rfl, q, rfl⟩
  | _ :: _, _, _, _, ⟨v, vs, e1, h1, h2⟩, q => ⟨v, vs ++ [_], by rw [e1]; rfl, h1, DaL.snoc h2 q⟩
theorem DaL.app : ∀ {l l' : List Dt} {xs ys : List V}, DaL K G xs l → DaL K G ys l' → DaL K G (xs ++ ys) (l ++ l')
  | [], _, _, _, h, q => by
    cases h
    exact q
  | _ :: _, _, _, ys, ⟨v, vs, e1, h1, h2⟩, q => ⟨v, vs ++ ys, by rw [e1]; rfl, h1, DaL.app h2 q⟩
theorem DaL.set : ∀ {l : List Dt} {xs : List V} {v : V} {d : Dt} (i : Nat), DaL K G xs l → Da K G v d → DaL K G (xs.set i v) (l.set i d)
  | [], _, _, _, _, h, _ => by
    cases h
    rfl
  | _ :: _, _, w, _, 0, ⟨_, vs, e1, _, h2⟩, q => ⟨w, vs, by rw [e1]; rfl, q, h2⟩
  | _ :: _, _, w, _, i + 1, ⟨v, vs, e1, h1, h2⟩, q => ⟨v, vs.set i w, by rw [e1]; rfl, h1, DaL.set i h2 q⟩
theorem DaL.drop : ∀ {l : List Dt} {xs : List V} (n : Nat), DaL K G xs l → DaL K G (xs.drop n) (l.drop n)
  | _, _, 0, h => h
  | [], _, n + 1, h => by
    cases h
    rfl
  | _ :: _, _, n + 1, ⟨_, _, e1, _, h2⟩ => by
    rw [e1]
    exact DaL.drop n h2
theorem DaL.take : ∀ {l : List Dt} {xs : List V} (n : Nat), DaL K G xs l → DaL K G (xs.take n) (l.take n)
  | _, _, 0, _ => rfl
  | [], _, n + 1, h => by
    cases h
    rfl
  | _ :: _, _, n + 1, ⟨v, vs, e1, h1, h2⟩ => by
    rw [e1]
    exact ⟨v, vs.take n, rfl, h1, DaL.take n h2⟩
theorem DaL.erase : ∀ {l : List Dt} {xs : List V} (n : Nat), DaL K G xs l → DaL K G (xs.eraseIdx n) (l.eraseIdx n)
  | [], _, _, h => by
    cases h
    rfl
  | _ :: _, _, 0, ⟨_, _, e1, _, h2⟩ => by
    rw [e1]
    exact h2
  | _ :: _, _, n + 1, ⟨v, vs, e1, h1, h2⟩ => by
    rw [e1]
    exact ⟨v, vs.eraseIdx n, rfl, h1, DaL.erase n h2⟩
theorem DaL.rep {xs : List V} {l : List Dt} (h : DaL K G xs l) : ∀ n : Nat, DaL K G (List.replicate n xs).flatten (List.replicate n l).flatten
  | 0 => rfl
  | n + 1 => by
    rw [List.replicate_succ, List.replicate_succ, List.flatten_cons, List.flatten_cons]
    exact DaL.app h (DaL.rep h n)
theorem DaL.ints : ∀ (ns : List Int), DaL K G (ns.map V.int) (ns.map Dt.int)
  | [] => rfl
  | n :: ns => ⟨.int n, ns.map V.int, rfl, rfl, DaL.ints ns⟩
theorem DaL.ofInts : ∀ {ns : List Int} {xs : List V}, DaL K G xs (ns.map Dt.int) → xs = ns.map V.int
  | [], _, h => h
  | n :: ns, _, ⟨v, vs, e1, h1, h2⟩ => by
    have e2 : v = V.int n := h1
    rw [e1, e2, DaL.ofInts h2]
    rfl
theorem DaL.ofBls : ∀ {bs : List Bool} {xs : List V}, DaL K G xs (bs.map Dt.bl) → xs = bs.map V.bl
  | [], _, h => h
  | n :: ns, _, ⟨v, vs, e1, h1, h2⟩ => by
    have e2 : v = V.bl n := h1
    rw [e1, e2, DaL.ofBls h2]
    rfl
end

/-! ## known parts of heaps -/
/-- the known part G of the heap H goes on, nothing that stood is changed -/
structure Ext (G H G' H' : Hp) : Prop where
  g : Same G G'
  h : Same H H'
  s : Same G' H'
  f : ∀ b o, G' b = some o → G b = some o ∨ H b = none
theorem Ext.rfl' {G H : Hp} (s : Same G H) : Ext G H G H := ⟨Same.refl G, Same.refl H, s, fun _ _ e => .inl e⟩
theorem Ext.trans {G H G1 H1 G2 H2 : Hp} (a : Ext G H G1 H1) (b : Ext G1 H1 G2 H2) : Ext G H G2 H2 where
  g := a.g.trans b.g
  h := a.h.trans b.h
  s := b.s
  f := fun c o e => by
    rcases b.f c o e with q | q
    · exact a.f c o q
    · exact .inr (a.h.free q)
theorem upd_mono {G H : Hp} {p : Addr} {o : HO} (s : Same G H) : Same (upd G p o) (upd H p o) := fun b u e => by
  by_cases hb : b = p
  · subst hb
    rw [upd_same] at e ⊢
    exact e
  · rw [upd_ne hb] at e ⊢
    exact s b u e
theorem same_new {H : Hp} {p : Addr} {o : HO} (h : H p = none) : Same H (upd H p o) := fun b u e => by
  rw [upd_ne (ne_of_none e h)]
  exact e
/-- a new thing, known -/
theorem Ext.new {G H : Hp} {p : Addr} {o : HO} (s : Same G H) (h : H p = none) : Ext G H (upd G p o) (upd H p o) where
  g := same_new (s.free h)
  h := same_new h
  s := upd_mono s
  f := fun b u e => by
    by_cases hb : b = p
    · exact .inr (hb ▸ h)
    · rw [upd_ne hb] at e
      exact .inl e
/-- a new thing, not known -/
theorem Ext.newH {G H : Hp} {p : Addr} {o : HO} (s : Same G H) (h : H p = none) : Ext G H G (upd H p o) where
  g := Same.refl G
  h := same_new h
  s := s.trans (same_new h)
  f := fun _ _ e => .inl e

/-! ## environments: what the slots hold -/
inductive Arg where
  | any
  | v (x : V)
  | d (d : Dt)
  | l (ds : List Dt)
  | k (kvs : List (Key × Dt))
  | t (kvs : List (List Key × Dt))
  | box (a : Addr) (n : Nat)
abbrev Env := List Arg

/-- the drawing box at a: at least n draws are left -/
def BoxSt (n : Nat) (H : Hp) (a : Addr) : Prop := ∃ (g : Int) (b : Bool) (m c : Int), H a = some (.lst [.int g, .bl b, .int m, .int c]) ∧ 0 ≤ g ∧ (0 ≤ m ∧ m < 2147483629) ∧ 0 ≤ c ∧ c + (n : Int) ≤ 1000000
theorem BoxSt.le {n m : Nat} {H : Hp} {a : Addr} (h : BoxSt n H a) (q : m ≤ n) : BoxSt m H a := by
  obtain ⟨g, b, k, c, h1, h2, h3, h4, h5⟩ := h
  exact ⟨g, b, k, c, h1, h2, h3, h4, by omega⟩

/-- things that must stay unchanged; some of them must stay unknown -/
structure Gh where
  h : Hp
  p : Addr → Prop
  q : ∀ c, p c → h c ≠ none
/-- where a def began: the written part, what was known, what stood; what must stay known, what must stay unchanged -/
structure Bs where
  K : PySem.W.Frag
  G0 : Hp
  H0 : Hp
  Gx : Hp
  Hx : Gh

/-- one slot -/
def Slot (b : Bs) (G H : Hp) (x : Option (Option V)) : Arg → Prop
  | .any => True
  | .v u => x = some (some u)
  | .d d => ∃ u, x = some (some u) ∧ Da b.K G u d
  | .l ds => ∃ p xs, x = some (some (.ref p)) ∧ G p = none ∧ b.H0 p = none ∧ b.Hx.h p = none ∧ H p = some (.lst xs) ∧ DaL b.K G xs ds
  | .k ds => ∃ p xs, x = some (some (.ref p)) ∧ G p = none ∧ b.H0 p = none ∧ b.Hx.h p = none ∧ H p = some (.dK xs) ∧ DaK b.K G xs ds
  | .t ds => ∃ p xs, x = some (some (.ref p)) ∧ G p = none ∧ b.H0 p = none ∧ b.Hx.h p = none ∧ H p = some (.dT xs) ∧ DaT b.K G xs ds
  | .box p n => x = some (some (.ref p)) ∧ G p = none ∧ b.Hx.h p = none ∧ BoxSt n H p
/-- kinds whose thing is the slot's own -/
def Arg.own : Arg → Bool
  | .l _ => true
  | .k _ => true
  | .t _ => true
  | .box _ _ => true
  | _ => false

structure Sl (b : Bs) (G H : Hp) (σ : L2.St) (Γ : Env) : Prop where
  gx : Same b.Gx G
  hx : Same b.Hx.h H
  px : ∀ c, b.Hx.p c → G c = none
  h1 : ∀ c, b.H0 c ≠ none → H c ≠ none
  gh : Same G H
  ff : ∀ c o, G c = some o → b.G0 c = some o ∨ b.H0 c = none
  len : Γ.length = σ.length
  sl : ∀ (i : Nat) α, Γ[i]? = some α → Slot b G H (σ[i]?) α
  nd : ∀ (i j : Nat) α β p, Γ[i]? = some α → α.own = true → σ[i]? = some (some (.ref p)) → Γ[j]? = some β → β.own = true → σ[j]? = some (some (.ref p)) → i = j

section
variable {b : Bs} {G H G' H' : Hp} {σ : L2.St} {Γ : Env}
/-- what an own slot's thing is -/
theorem Slot.at {x : Option (Option V)} : ∀ {α : Arg}, Slot b G H x α → α.own = true → ∃ p o, x = some (some (.ref p)) ∧ G p = none ∧ b.Hx.h p = none ∧ H p = some o := fun {α} h q => by
  cases α with
  | any => cases q
  | v u => cases q
  | d d => cases q
  | l ds =>
    obtain ⟨p, xs, h1, h2, _, h3, h4, _⟩ := h
    exact ⟨p, _, h1, h2, h3, h4⟩
  | k ds =>
    obtain ⟨p, xs, h1, h2, _, h3, h4, _⟩ := h
    exact ⟨p, _, h1, h2, h3, h4⟩
  | t ds =>
    obtain ⟨p, xs, h1, h2, _, h3, h4, _⟩ := h
    exact ⟨p, _, h1, h2, h3, h4⟩
  | box p n =>
    obtain ⟨h1, h2, h3, g, bb, m, c, h4, _⟩ := h
    exact ⟨p, _, h1, h2, h3, h4⟩
/-- a slot's kind stands in other heaps: what is known grows, its own thing is as it was -/
theorem Slot.move {x : Option (Option V)} (g : Same G G') : ∀ {α : Arg}, Slot b G H x α → (∀ p o, α.own = true → x = some (some (.ref p)) → G p = none → H p = some o → G' p = none ∧ H' p = some o) → Slot b G' H' x α := fun {α} h k => by
  cases α with
  | any => trivial
  | v u => exact h
  | d d =>
    obtain ⟨u, h1, h2⟩ := h
    exact ⟨u, h1, Da.up g d h2⟩
  | l ds =>
    obtain ⟨p, xs, h1, h2, h3, h4, h5, h6⟩ := h
    obtain ⟨q1, q2⟩ := k p _ rfl h1 h2 h5
    exact ⟨p, xs, h1, q1, h3, h4, q2, DaL.up g _ h6⟩
  | k ds =>
    obtain ⟨p, xs, h1, h2, h3, h4, h5, h6⟩ := h
    obtain ⟨q1, q2⟩ := k p _ rfl h1 h2 h5
    exact ⟨p, xs, h1, q1, h3, h4, q2, DaK.up g _ h6⟩
  | t ds =>
    obtain ⟨p, xs, h1, h2, h3, h4, h5, h6⟩ := h
    obtain ⟨q1, q2⟩ := k p _ rfl h1 h2 h5
    exact ⟨p, xs, h1, q1, h3, h4, q2, DaT.up g _ h6⟩
  | box p n =>
    obtain ⟨h1, h2, h3, gg, bb, m, c, h4, h5⟩ := h
    obtain ⟨q1, q2⟩ := k p _ rfl h1 h2 h4
    exact ⟨h1, q1, h3, gg, bb, m, c, q2, h5⟩
theorem Ext.none {p : Addr} {o : HO} (e : Ext G H G' H') (n : G p = Option.none) (q : H p = some o) : G' p = Option.none := by
  cases z : G' p with
  | none => rfl
  | some u =>
    rcases e.f p u z with y | y
    · rw [n] at y
      cases y
    · rw [q] at y
      cases y
theorem Sl.ext (S : Sl b G H σ Γ) (e : Ext G H G' H') : Sl b G' H' σ Γ where
  gx := S.gx.trans e.g
  hx := S.hx.trans e.h
  px := fun c q => by
    cases z : H c with
    | none => exact absurd (S.hx.free z) (b.Hx.q c q)
    | some o => exact e.none (S.px c q) z
  h1 := fun c n z => S.h1 c n (e.h.free z)
  gh := e.s
  ff := fun c o q => by
    rcases e.f c o q with y | y
    · exact S.ff c o y
    · refine .inr ?_
      cases z : b.H0 c with
      | none => rfl
      | some u => exact absurd y (S.h1 c (by rw [z]; exact fun q => nomatch q))
  len := S.len
  sl := fun i α q => (S.sl i α q).move e.g fun p o _ _ n y => ⟨e.none n y, e.h _ _ y⟩
  nd := S.nd
/-- another base: what must stay known, what must stay unchanged -/
theorem Sl.base {Gy : Hp} {Hy : Gh} (S : Sl b G H σ Γ) (y : Same Gy G) (z : Same Hy.h H) (np : ∀ c, Hy.p c → G c = none) (n : ∀ (j : Nat) β p, Γ[j]? = some β → β.own = true → σ[j]? = some (some (.ref p)) → Hy.h p = none) : Sl { b with Gx := Gy, Hx := Hy } G H σ Γ :=
  ⟨y, z, np, S.h1, S.gh, S.ff, S.len, fun i α q => by
    have t := S.sl i α q
    cases α with
    | any => exact t
    | v u => exact t
    | d d => exact t
    | l ds =>
      obtain ⟨p, xs, h1, h2, h3, h4, h5⟩ := t
      exact ⟨p, xs, h1, h2, h3, n i _ p q rfl h1, h5⟩
    | k ds =>
      obtain ⟨p, xs, h1, h2, h3, h4, h5⟩ := t
      exact ⟨p, xs, h1, h2, h3, n i _ p q rfl h1, h5⟩
    | t ds =>
      obtain ⟨p, xs, h1, h2, h3, h4, h5⟩ := t
      exact ⟨p, xs, h1, h2, h3, n i _ p q rfl h1, h5⟩
    | box p m =>
      obtain ⟨h1, h2, h3, h5⟩ := t
      exact ⟨h1, h2, n i _ p q rfl h1, h5⟩, S.nd⟩
theorem Sl.var {i : Nat} {d : Dt} (S : Sl b G H σ Γ) (h : Γ[i]? = some (.d d)) : ∃ v, σ[i]? = some (some v) ∧ Da b.K G v d := S.sl i _ h
/-- the own things of the slots stand -/
theorem Sl.ownAt (S : Sl b G H σ Γ) {j : Nat} {β : Arg} {p : Addr} (h1 : Γ[j]? = some β) (h2 : β.own = true) (h3 : σ[j]? = some (some (.ref p))) : G p = none ∧ b.Hx.h p = none ∧ ∃ o, H p = some o := by
  obtain ⟨q, o, e, a1, a2, a3⟩ := (S.sl j β h1).at h2
  rw [h3] at e
  cases e
  exact ⟨a1, a2, o, a3⟩
end

/-! ## readings over environments -/
/-- what an exception asks for: its class, what it was given -/
structure Cs extends Bs where
  W : WX
  Xi : Addr → Dt → Env → Prop
def gvn : Str := "given"
def Cs.Wok (B : Cs) : Prop := ∀ (C : Addr) (d : Dt) (dd : Addr) (v : V) (Γ : Env) (G H : Hp) (σ : L2.St), B.Xi C d Γ → Sl B.toBs G H σ Γ → H dd = some (.xd [(gvn, v)]) → Da B.K G v d → B.W (.ref C) (some dd) σ H
/-- the same beginning, more that must stay -/
def Cs.b (B : Cs) (Gy : Hp) (Hy : Gh) : Bs := ⟨B.K, B.G0, B.H0, Gy, Hy⟩
structure Wy (B : Cs) (Gy : Hp) (Hy : Gh) : Prop where
  wok : B.Wok
  gy : Same B.Gx Gy
  hy : Same B.Hx.h Hy.h
  hp : ∀ c, B.Hx.p c → Hy.p c
theorem Wy.back {B : Cs} {Gy G H : Hp} {Hy : Gh} {σ : L2.St} {Γ : Env} (w : Wy B Gy Hy) (S : Sl (B.b Gy Hy) G H σ Γ) : Sl B.toBs G H σ Γ :=
  Sl.base (b := B.b Gy Hy) (Gy := B.Gx) (Hy := B.Hx) S (w.gy.trans S.gx) (w.hy.trans S.hx) (fun c q => S.px c (w.hp c q)) fun j β p h1 h2 h3 => w.hy.free (S.ownAt h1 h2 h3).2.1

def Ev (B : Cs) (te : TE) (Γ : Env) (Φ : Dt → Env → Prop) : Prop := ∀ gy hy, Wy B gy hy → ∀ (G H : Hp) (σ : L2.St), Sl (B.b gy hy) G H σ Γ → ∀ Q : VK,
  (∀ v d Γ' G' H', Φ d Γ' → Same G G' → Sl (B.b gy hy) G' H' σ Γ' → Da B.K G' v d → Q v H') → te σ H Q
/-- at p stands a list that is nobody's as yet -/
structure NewL (b : Bs) (G H : Hp) (σ : L2.St) (Γ : Env) (p : Addr) (xs : List V) (ds : List Dt) : Prop where
  g : G p = none
  h0 : b.H0 p = none
  hx : b.Hx.h p = none
  st : H p = some (.lst xs)
  da : DaL b.K G xs ds
  no : ∀ (j : Nat) β, Γ[j]? = some β → β.own = true → σ[j]? ≠ some (some (.ref p))
/-- a new list -/
def EvN (B : Cs) (te : TE) (Γ : Env) (Φ : List Dt → Env → Prop) : Prop := ∀ gy hy, Wy B gy hy → ∀ (G H : Hp) (σ : L2.St), Sl (B.b gy hy) G H σ Γ → ∀ Q : VK,
  (∀ p xs ds Γ' G' H', Φ ds Γ' → Same G G' → Sl (B.b gy hy) G' H' σ Γ' → NewL (B.b gy hy) G' H' σ Γ' p xs ds → Q (.ref p) H') → te σ H Q
def EvT (B : Cs) (tt : TT) (Γ : Env) (Φ : Bool → Env → Prop) : Prop := ∀ gy hy, Wy B gy hy → ∀ (G H : Hp) (σ : L2.St), Sl (B.b gy hy) G H σ Γ → ∀ Q : Bool → Hp → Prop,
  (∀ c Γ' G' H', Φ c Γ' → Same G G' → Sl (B.b gy hy) G' H' σ Γ' → Q c H') → tt σ H Q
def EvA (B : Cs) (ta : TA) (Γ : Env) (Φ : List Dt → Env → Prop) : Prop := ∀ gy hy, Wy B gy hy → ∀ (G H : Hp) (σ : L2.St), Sl (B.b gy hy) G H σ Γ → ∀ Q : List V → Hp → Prop,
  (∀ vs ds Γ' G' H', Φ ds Γ' → Same G G' → Sl (B.b gy hy) G' H' σ Γ' → DaL B.K G' vs ds → Q vs H') → ta σ H Q
/-- what is wanted behind a statement -/
structure AE where
  nx : Env → Prop
  rt : Dt → Env → Prop := fun _ _ => False
  bk : Env → Prop := fun _ => False
  ct : Env → Prop := fun _ => False
def Sv (B : Cs) (t : TS) (Γ : Env) (A : AE) : Prop := ∀ gy hy, Wy B gy hy → ∀ (G H : Hp) (σ : L2.St) (D : Ends), Sl (B.b gy hy) G H σ Γ →
  (∀ Γ' G' H' σ', A.nx Γ' → Same G G' → Sl (B.b gy hy) G' H' σ' Γ' → D.nx σ' H') →
  (∀ d v Γ' G' H' σ', A.rt d Γ' → Same G G' → Sl (B.b gy hy) G' H' σ' Γ' → Da B.K G' v d → D.rt v H') →
  (∀ Γ' G' H' σ', A.bk Γ' → Same G G' → Sl (B.b gy hy) G' H' σ' Γ' → D.bk σ' H') →
  (∀ Γ' G' H' σ', A.ct Γ' → Same G G' → Sl (B.b gy hy) G' H' σ' Γ' → D.ct σ' H') → t D σ H
/-- a target takes a value: the slots js alone may change -/
def Tg (K : PySem.W.Frag) (g : TG) (js : List Nat) (d : Dt) (Γ : Env) (Ψ : Env → Prop) : Prop := ∀ (b : Bs), b.K = K → ∀ (G H : Hp) (σ : L2.St) (v : V) (Q : L2.St → Hp → Prop), Sl b G H σ Γ → Da K G v d →
  (∀ Γ' σ', Ψ Γ' → Sl b G H σ' Γ' → (∀ vs, (∀ j ∈ js, j ∈ vs) → wipe σ' vs = wipe σ vs) → Q σ' H) → g v σ H Q
def TgL (K : PySem.W.Frag) (g : TGs) (js : List Nat) (ds : List Dt) (Γ : Env) (Ψ : Env → Prop) : Prop := ∀ (b : Bs), b.K = K → ∀ (G H : Hp) (σ : L2.St) (vs : List V) (Q : L2.St → Hp → Prop), Sl b G H σ Γ → DaL K G vs ds →
  (∀ Γ' σ', Ψ Γ' → Sl b G H σ' Γ' → (∀ vs, (∀ j ∈ js, j ∈ vs) → wipe σ' vs = wipe σ vs) → Q σ' H) → g vs σ H Q

/-! ### names and constants -/
section
variable {B : Cs} {Γ : Env} {Φ : Dt → Env → Prop}
theorem ev_var {i : Nat} {d : Dt} (h : Γ[i]? = some (.d d)) (q : Φ d Γ) : Ev B (tVar i) Γ Φ := fun gy hy _ G H σ S Q k => by
  obtain ⟨v, h1, h2⟩ := S.var h
  exact ⟨v, h1, k v d Γ G H q (Same.refl G) S h2⟩
theorem ev_n (q : Φ .non Γ) : Ev B (tC .non) Γ Φ := fun gy hy _ G H σ S Q k => k _ _ Γ G H q (Same.refl G) S rfl
theorem ev_b {c : Bool} (q : Φ (.bl c) Γ) : Ev B (tC (.bl c)) Γ Φ := fun gy hy _ G H σ S Q k => k _ _ Γ G H q (Same.refl G) S rfl
theorem ev_i {i : Int} (q : Φ (.int i) Γ) : Ev B (tC (.int i)) Γ Φ := fun gy hy _ G H σ S Q k => k _ _ Γ G H q (Same.refl G) S rfl
theorem ev_s {x : Str} (q : Φ (.str x) Γ) : Ev B (tC (.str x)) Γ Φ := fun gy hy _ G H σ S Q k => k _ _ Γ G H q (Same.refl G) S rfl
theorem Ev.imp {te : TE} {Φ' : Dt → Env → Prop} (h : Ev B te Γ Φ) (k : ∀ d Γ', Φ d Γ' → Φ' d Γ') : Ev B te Γ Φ' :=
  fun gy hy w G H σ S Q q => h gy hy w G H σ S Q fun v d Γ' G' H' e => q v d Γ' G' H' (k _ _ e)
end
end Cp
/-! Cp2: the rules of readings over environments: expressions, tests, statements, loops, calls. -/
namespace Cp
open PySem PySem.Spec PyProof.Rows L2

section
variable {B : Cs} {Γ : Env} {Φ : Dt → Env → Prop} {Ψ : Bool → Env → Prop} {Θ : List Dt → Env → Prop} {ta tb tc te tl : TE} {tt tu : TT}
theorem EvN.imp {Θ' : List Dt → Env → Prop} (h : EvN B te Γ Θ) (k : ∀ d Γ', Θ d Γ' → Θ' d Γ') : EvN B te Γ Θ' :=
  fun gy hy w G H σ S Q q => h gy hy w G H σ S Q fun p xs ds Γ' G' H' e => q p xs ds Γ' G' H' (k _ _ e)
theorem EvT.imp {Ψ' : Bool → Env → Prop} (h : EvT B tt Γ Ψ) (k : ∀ d Γ', Ψ d Γ' → Ψ' d Γ') : EvT B tt Γ Ψ' :=
  fun gy hy w G H σ S Q q => h gy hy w G H σ S Q fun c Γ' G' H' e => q c Γ' G' H' (k _ _ e)
theorem EvA.imp {ta : TA} {Θ' : List Dt → Env → Prop} (h : EvA B ta Γ Θ) (k : ∀ d Γ', Θ d Γ' → Θ' d Γ') : EvA B ta Γ Θ' :=
  fun gy hy w G H σ S Q q => h gy hy w G H σ S Q fun p xs Γ' G' H' e => q p xs Γ' G' H' (k _ _ e)

/-! ### operations on values -/
/-- d1 r d2 is d -/
def OpD (K : PySem.W.Frag) (r : R2) (d1 d2 d : Dt) : Prop := ∀ (G H : Hp) (x y : V), Same G H → Da K G x d1 → Da K G y d2 → ∀ Q : VK, (∀ v G' H', Ext G H G' H' → Da K G' v d → Q v H') → r x y H Q
/-- d1 r d2 is a new list of ds -/
def OpN (K : PySem.W.Frag) (r : R2) (d1 d2 : Dt) (ds : List Dt) : Prop := ∀ (G H : Hp) (x y : V), Same G H → Da K G x d1 → Da K G y d2 → ∀ Q : VK,
  (∀ p xs G' H', Ext G H G' H' → H p = none → G' p = none → H' p = some (.lst xs) → DaL K G' xs ds → Q (.ref p) H') → r x y H Q
def UnD (K : PySem.W.Frag) (r : V → Hp → VK → Prop) (d1 d : Dt) : Prop := ∀ (G H : Hp) (x : V), Same G H → Da K G x d1 → ∀ Q : VK, (∀ v G' H', Ext G H G' H' → Da K G' v d → Q v H') → r x H Q
def CbD (K : PySem.W.Frag) (r : List V → Hp → VK → Prop) (ds : List Dt) (d : Dt) : Prop := ∀ (G H : Hp) (xs : List V), Same G H → DaL K G xs ds → ∀ Q : VK, (∀ v G' H', Ext G H G' H' → Da K G' v d → Q v H') → r xs H Q
def CbN (K : PySem.W.Frag) (r : List V → Hp → VK → Prop) (ds : List Dt) (es : List Dt) : Prop := ∀ (G H : Hp) (xs : List V), Same G H → DaL K G xs ds → ∀ Q : VK,
  (∀ p xs G' H', Ext G H G' H' → H p = none → G' p = none → H' p = some (.lst xs) → DaL K G' xs es → Q (.ref p) H') → r xs H Q

theorem ev_op {r : R2} (h : Ev B ta Γ fun d1 Γ1 => Ev B tb Γ1 fun d2 Γ2 => ∃ d, OpD B.K r d1 d2 d ∧ Φ d Γ2) : Ev B (tOp r ta tb) Γ Φ := fun gy hy w G H σ S Q k =>
  h gy hy w G H σ S _ fun v1 d1 Γ1 G1 H1 h1 s1 S1 D1 => h1 gy hy w G1 H1 σ S1 _ fun v2 d2 Γ2 G2 H2 ⟨d, ho, hp⟩ s2 S2 D2 =>
    ho G2 H2 v1 v2 S2.gh (Da.up s2 d1 D1) D2 Q fun v G3 H3 e D3 => k v d Γ2 G3 H3 hp ((s1.trans s2).trans e.g) (S2.ext e) D3
theorem own_fresh {b : Bs} {G H : Hp} {σ : L2.St} {Γ : Env} (S : Sl b G H σ Γ) {p : Addr} (n : H p = none) : ∀ (j : Nat) β, Γ[j]? = some β → β.own = true → σ[j]? ≠ some (some (.ref p)) := fun j β h1 h2 h3 => by
  obtain ⟨_, _, o, e⟩ := S.ownAt h1 h2 h3
  rw [n] at e
  cases e
theorem h0_fresh {b : Bs} {G H : Hp} {σ : L2.St} {Γ : Env} (S : Sl b G H σ Γ) {p : Addr} (n : H p = none) : b.H0 p = none := by
  cases z : b.H0 p with
  | none => rfl
  | some u => exact absurd n (S.h1 p (by rw [z]; exact fun q => nomatch q))
theorem hx_fresh {b : Bs} {G H : Hp} {σ : L2.St} {Γ : Env} (S : Sl b G H σ Γ) {p : Addr} (n : H p = none) : b.Hx.h p = none := S.hx.free n
theorem newL {b : Bs} {G H G' H' : Hp} {σ : L2.St} {Γ : Env} {p : Addr} {xs : List V} {ds : List Dt} (S : Sl b G H σ Γ) (n : H p = none) (n1 : G' p = none) (n2 : H' p = some (.lst xs)) (D : DaL b.K G' xs ds) : NewL b G' H' σ Γ p xs ds :=
  ⟨n1, h0_fresh S n, hx_fresh S n, n2, D, own_fresh S n⟩
theorem en_op {r : R2} (h : Ev B ta Γ fun d1 Γ1 => Ev B tb Γ1 fun d2 Γ2 => ∃ ds, OpN B.K r d1 d2 ds ∧ Θ ds Γ2) : EvN B (tOp r ta tb) Γ Θ := fun gy hy w G H σ S Q k =>
  h gy hy w G H σ S _ fun v1 d1 Γ1 G1 H1 h1 s1 S1 D1 => h1 gy hy w G1 H1 σ S1 _ fun v2 d2 Γ2 G2 H2 ⟨ds, ho, hp⟩ s2 S2 D2 =>
    ho G2 H2 v1 v2 S2.gh (Da.up s2 d1 D1) D2 Q fun p xs G3 H3 e n0 n1 n2 D3 => k p xs ds Γ2 G3 H3 hp ((s1.trans s2).trans e.g) (S2.ext e) (newL S2 n0 n1 n2 D3)
theorem ev_un {r : V → Hp → VK → Prop} (h : Ev B ta Γ fun d1 Γ1 => ∃ d, UnD B.K r d1 d ∧ Φ d Γ1) : Ev B (tUn r ta) Γ Φ := fun gy hy w G H σ S Q k =>
  h gy hy w G H σ S _ fun v1 d1 Γ1 G1 H1 ⟨d, ho, hp⟩ s1 S1 D1 => ho G1 H1 v1 S1.gh D1 Q fun v G3 H3 e D3 => k v d Γ1 G3 H3 hp (s1.trans e.g) (S1.ext e) D3
theorem ev_cb {r : List V → Hp → VK → Prop} {t : TA} (h : EvA B t Γ fun ds Γ1 => ∃ d, CbD B.K r ds d ∧ Φ d Γ1) : Ev B (tCB r t) Γ Φ := fun gy hy w G H σ S Q k =>
  h gy hy w G H σ S _ fun vs ds Γ1 G1 H1 ⟨d, ho, hp⟩ s1 S1 D1 => ho G1 H1 vs S1.gh D1 Q fun v G3 H3 e D3 => k v d Γ1 G3 H3 hp (s1.trans e.g) (S1.ext e) D3
theorem en_cb {r : List V → Hp → VK → Prop} {t : TA} (h : EvA B t Γ fun ds Γ1 => ∃ es, CbN B.K r ds es ∧ Θ es Γ1) : EvN B (tCB r t) Γ Θ := fun gy hy w G H σ S Q k =>
  h gy hy w G H σ S _ fun vs ds Γ1 G1 H1 ⟨es, ho, hp⟩ s1 S1 D1 => ho G1 H1 vs S1.gh D1 Q fun p xs G3 H3 e n0 n1 n2 D3 => k p xs es Γ1 G3 H3 hp (s1.trans e.g) (S1.ext e) (newL S1 n0 n1 n2 D3)
/-- a new list is known from now on -/
theorem EvN.ev (h : EvN B te Γ fun ds Γ' => Φ (.lst ds) Γ') : Ev B te Γ Φ := fun gy hy w G H σ S Q k =>
  h gy hy w G H σ S Q fun p xs ds Γ' G' H' hp s S' ⟨n1, n2, n4, n3, D, no⟩ => by
    have e1 : Same G' (upd G' p (.lst xs)) := same_new n1
    refine k (.ref p) _ Γ' (upd G' p (.lst xs)) H' hp (s.trans e1) ⟨S'.gx.trans e1, S'.hx, fun c q => by rw [upd_ne fun z => (Bs.Hx _).q c q (by rw [z]; exact n4)]; exact S'.px c q, S'.h1, fun c o q => ?_, fun c o q => ?_, S'.len, fun i α q => (S'.sl i α q).move e1 fun a o ow ex na qa => ⟨?_, qa⟩, S'.nd⟩ ⟨p, xs, rfl, upd_same, DaL.up e1 _ D⟩
    · by_cases hc : c = p
      · subst hc
        rw [upd_same] at q
        rw [n3]
        exact q
      · rw [upd_ne hc] at q
        exact S'.gh c o q
    · by_cases hc : c = p
      · exact .inr (hc ▸ n2)
      · rw [upd_ne hc] at q
        exact S'.ff c o q
    · rw [upd_ne fun z => no i α q ow (by rw [ex, z])]
      exact na

/-! ### argument lists, displays -/
theorem ea_nil (q : Θ [] Γ) : EvA B tNil Γ Θ := fun gy hy _ G H σ S Q k => k [] [] Γ G H q (Same.refl G) S rfl
theorem ea_cons {tr : TA} (h : Ev B te Γ fun d Γ1 => EvA B tr Γ1 fun ds Γ2 => Θ (d :: ds) Γ2) : EvA B (tCons te tr) Γ Θ := fun gy hy w G H σ S Q k =>
  h gy hy w G H σ S _ fun v d Γ1 G1 H1 h1 s1 S1 D1 => h1 gy hy w G1 H1 σ S1 _ fun vs ds Γ2 G2 H2 hp s2 S2 D2 => k (v :: vs) (d :: ds) Γ2 G2 H2 hp (s1.trans s2) S2 ⟨v, vs, rfl, Da.up s2 d D1, D2⟩
theorem sz_small {n : Nat} (h : n ≤ 100000) : n ≤ sizeLine := Nat.le_trans h (by decide)
theorem ev_tup {t : TA} (h : EvA B t Γ fun ds Γ' => ds.length ≤ 100000 ∧ Φ (.tup ds) Γ') : Ev B (tTup t) Γ Φ := fun gy hy w G H σ S Q k =>
  h gy hy w G H σ S _ fun vs ds Γ1 G1 H1 ⟨hl, hp⟩ s1 S1 D1 => ⟨by rw [DaL.len D1]; exact sz_small hl, fun p np => by
    have e := Ext.new (o := .tup vs) S1.gh np
    exact k (.ref p) _ Γ1 _ _ hp (s1.trans e.g) (S1.ext e) ⟨p, vs, rfl, upd_same, DaL.up e.g _ D1⟩⟩
theorem en_lst {t : TA} (h : EvA B t Γ fun ds Γ' => ds.length ≤ 100000 ∧ Θ ds Γ') : EvN B (tLst t) Γ Θ := fun gy hy w G H σ S Q k =>
  h gy hy w G H σ S _ fun vs ds Γ1 G1 H1 ⟨hl, hp⟩ s1 S1 D1 => ⟨by rw [DaL.len D1]; exact sz_small hl, fun p np => by
    have e := Ext.newH (o := .lst vs) S1.gh np
    exact k p vs ds Γ1 _ _ hp s1 (S1.ext e) (newL S1 np (S1.gh.free np) upd_same D1)⟩

/-! ### tests, and, or, not, if -/
theorem et_test (h : Ev B te Γ fun d Γ' => ∃ c, d = .bl c ∧ Ψ c Γ') : EvT B (tTest te) Γ Ψ := fun gy hy w G H σ S Q k =>
  h gy hy w G H σ S _ fun v d Γ1 G1 H1 ⟨c, e, hp⟩ s1 S1 D1 => ⟨c, by subst e; exact D1, k c Γ1 G1 H1 hp s1 S1⟩
theorem et_B (h : Ev B te Γ fun d Γ' => ∃ c, d = .bl c ∧ Ψ c Γ') : EvT B (tB te) Γ Ψ := fun gy hy w G H σ S Q k =>
  h gy hy w G H σ S _ fun v d Γ1 G1 H1 ⟨c, e, hp⟩ s1 S1 D1 => ⟨c, by subst e; exact D1, k c Γ1 G1 H1 hp s1 S1⟩
theorem et_and (h : EvT B tt Γ fun c Γ1 => if c = true then EvT B tu Γ1 Ψ else Ψ false Γ1) : EvT B (tAnd tt tu) Γ Ψ := fun gy hy w G H σ S Q k =>
  h gy hy w G H σ S _ fun c Γ1 G1 H1 hp s1 S1 => by
    cases c with
    | true => exact hp gy hy w G1 H1 σ S1 Q fun c' Γ2 G2 H2 h2 s2 => k c' Γ2 G2 H2 h2 (s1.trans s2)
    | false => exact k false Γ1 G1 H1 hp s1 S1
theorem et_or (h : EvT B tt Γ fun c Γ1 => if c = true then Ψ true Γ1 else EvT B tu Γ1 Ψ) : EvT B (tOr tt tu) Γ Ψ := fun gy hy w G H σ S Q k =>
  h gy hy w G H σ S _ fun c Γ1 G1 H1 hp s1 S1 => by
    cases c with
    | false => exact hp gy hy w G1 H1 σ S1 Q fun c' Γ2 G2 H2 h2 s2 => k c' Γ2 G2 H2 h2 (s1.trans s2)
    | true => exact k true Γ1 G1 H1 hp s1 S1
theorem et_not (h : EvT B tt Γ fun c Γ1 => Ψ (!c) Γ1) : EvT B (tNot tt) Γ Ψ := fun gy hy w G H σ S Q k =>
  h gy hy w G H σ S _ fun c Γ1 G1 H1 hp s1 S1 => k (!c) Γ1 G1 H1 hp s1 S1
theorem ev_and (h : Ev B ta Γ fun d Γ1 => ∃ c, d = .bl c ∧ if c = true then Ev B tb Γ1 Φ else Φ (.bl false) Γ1) : Ev B (tAndV ta tb) Γ Φ := fun gy hy w G H σ S Q k =>
  h gy hy w G H σ S _ fun v d Γ1 G1 H1 ⟨c, e, hp⟩ s1 S1 D1 => ⟨c, by subst e; exact D1, by
    cases c with
    | true => exact hp gy hy w G1 H1 σ S1 Q fun v' d' Γ2 G2 H2 h2 s2 => k v' d' Γ2 G2 H2 h2 (s1.trans s2)
    | false => exact k _ _ Γ1 G1 H1 hp s1 S1 rfl⟩
theorem ev_or (h : Ev B ta Γ fun d Γ1 => ∃ c, d = .bl c ∧ if c = true then Φ (.bl true) Γ1 else Ev B tb Γ1 Φ) : Ev B (tOrV ta tb) Γ Φ := fun gy hy w G H σ S Q k =>
  h gy hy w G H σ S _ fun v d Γ1 G1 H1 ⟨c, e, hp⟩ s1 S1 D1 => ⟨c, by subst e; exact D1, by
    cases c with
    | false => exact hp gy hy w G1 H1 σ S1 Q fun v' d' Γ2 G2 H2 h2 s2 => k v' d' Γ2 G2 H2 h2 (s1.trans s2)
    | true => exact k _ _ Γ1 G1 H1 hp s1 S1 rfl⟩
theorem ev_not (h : Ev B ta Γ fun d Γ1 => ∃ c, d = .bl c ∧ Φ (.bl (!c)) Γ1) : Ev B (tNotV ta) Γ Φ := fun gy hy w G H σ S Q k =>
  h gy hy w G H σ S _ fun v d Γ1 G1 H1 ⟨c, e, hp⟩ s1 S1 D1 => ⟨c, by subst e; exact D1, k _ _ Γ1 G1 H1 hp s1 S1 rfl⟩
theorem ev_if (h : EvT B tt Γ fun c Γ1 => if c = true then Ev B ta Γ1 Φ else Ev B tb Γ1 Φ) : Ev B (tIf tt ta tb) Γ Φ := fun gy hy w G H σ S Q k =>
  h gy hy w G H σ S _ fun c Γ1 G1 H1 hp s1 S1 => by
    cases c with
    | true => exact hp gy hy w G1 H1 σ S1 Q fun v' d' Γ2 G2 H2 h2 s2 => k v' d' Γ2 G2 H2 h2 (s1.trans s2)
    | false => exact hp gy hy w G1 H1 σ S1 Q fun v' d' Γ2 G2 H2 h2 s2 => k v' d' Γ2 G2 H2 h2 (s1.trans s2)
theorem ev_chain {r r' : R2} (h : Ev B ta Γ fun d1 Γ1 => Ev B tb Γ1 fun d2 Γ2 => ∃ c, OpD B.K r d1 d2 (.bl c) ∧ if c = true then Ev B tc Γ2 (fun d3 Γ3 => ∃ d, OpD B.K r' d2 d3 d ∧ Φ d Γ3) else Φ (.bl false) Γ2) : Ev B (tChain r r' ta tb tc) Γ Φ := fun gy hy w G H σ S Q k =>
  h gy hy w G H σ S _ fun v1 d1 Γ1 G1 H1 h1 s1 S1 D1 => h1 gy hy w G1 H1 σ S1 _ fun v2 d2 Γ2 G2 H2 ⟨c, ho, hp⟩ s2 S2 D2 =>
    ho G2 H2 v1 v2 S2.gh (Da.up s2 d1 D1) D2 _ fun v G3 H3 e D3 => ⟨c, D3, by
      cases c with
      | true => exact hp gy hy w G3 H3 σ (S2.ext e) _ fun v3 d3 Γ4 G4 H4 ⟨d, ho', hp'⟩ s4 S4 D4 => ho' G4 H4 v2 v3 S4.gh (Da.up (e.g.trans s4) d2 D2) D4 Q fun v5 G5 H5 e5 D5 => k v5 d Γ4 G5 H5 hp' (((s1.trans s2).trans (e.g.trans s4)).trans e5.g) (S4.ext e5) D5
      | false => exact k _ _ Γ2 G3 H3 hp ((s1.trans s2).trans e.g) (S2.ext e) rfl⟩

/-! ### statements -/
variable {t u : TS} {A : AE} {g : TG}
theorem sv_seq (h : Sv B t Γ { A with nx := fun Γ' => Sv B u Γ' A }) : Sv B (tSeq t u) Γ A := fun gy hy w G H σ D S k1 k2 k3 k4 =>
  h gy hy w G H σ { D with nx := u D } S (fun Γ' G' H' σ' hp s S' => hp gy hy w G' H' σ' D S' (fun Γ2 G2 H2 σ2 h2 s2 => k1 Γ2 G2 H2 σ2 h2 (s.trans s2)) (fun d v Γ2 G2 H2 σ2 h2 s2 => k2 d v Γ2 G2 H2 σ2 h2 (s.trans s2))
    (fun Γ2 G2 H2 σ2 h2 s2 => k3 Γ2 G2 H2 σ2 h2 (s.trans s2)) (fun Γ2 G2 H2 σ2 h2 s2 => k4 Γ2 G2 H2 σ2 h2 (s.trans s2))) k2 k3 k4
theorem sv_nx (q : A.nx Γ) : Sv B tNext Γ A := fun gy hy _ G H σ D S k1 _ _ _ => k1 Γ G H σ q (Same.refl G) S
theorem sv_bk (q : A.bk Γ) : Sv B tBreak Γ A := fun gy hy _ G H σ D S _ _ k3 _ => k3 Γ G H σ q (Same.refl G) S
theorem sv_ct (q : A.ct Γ) : Sv B tCont Γ A := fun gy hy _ G H σ D S _ _ _ k4 => k4 Γ G H σ q (Same.refl G) S
theorem sv_ret (h : Ev B te Γ A.rt) : Sv B (tRet te) Γ A := fun gy hy w G H σ D S _ k2 _ _ => h gy hy w G H σ S _ fun v d Γ' G' H' hp s S' D' => k2 d v Γ' G' H' σ hp s S' D'
theorem sv_if (h : EvT B tt Γ fun c Γ1 => if c = true then Sv B t Γ1 A else Sv B u Γ1 A) : Sv B (tIfS tt t u) Γ A := fun gy hy w G H σ D S k1 k2 k3 k4 =>
  h gy hy w G H σ S _ fun c Γ1 G1 H1 hp s1 S1 => by
    cases c with
    | true => exact hp gy hy w G1 H1 σ D S1 (fun Γ2 G2 H2 σ2 h2 s2 => k1 Γ2 G2 H2 σ2 h2 (s1.trans s2)) (fun d v Γ2 G2 H2 σ2 h2 s2 => k2 d v Γ2 G2 H2 σ2 h2 (s1.trans s2)) (fun Γ2 G2 H2 σ2 h2 s2 => k3 Γ2 G2 H2 σ2 h2 (s1.trans s2)) (fun Γ2 G2 H2 σ2 h2 s2 => k4 Γ2 G2 H2 σ2 h2 (s1.trans s2))
    | false => exact hp gy hy w G1 H1 σ D S1 (fun Γ2 G2 H2 σ2 h2 s2 => k1 Γ2 G2 H2 σ2 h2 (s1.trans s2)) (fun d v Γ2 G2 H2 σ2 h2 s2 => k2 d v Γ2 G2 H2 σ2 h2 (s1.trans s2)) (fun Γ2 G2 H2 σ2 h2 s2 => k3 Γ2 G2 H2 σ2 h2 (s1.trans s2)) (fun Γ2 G2 H2 σ2 h2 s2 => k4 Γ2 G2 H2 σ2 h2 (s1.trans s2))
theorem sv_drop (h : Ev B te Γ fun _ Γ' => A.nx Γ') : Sv B (tDrop te) Γ A := fun gy hy w G H σ D S k1 _ _ _ => h gy hy w G H σ S _ fun v d Γ' G' H' hp s S' D' => k1 Γ' G' H' σ hp s S'

/-- a slot takes a known value -/
theorem Sl.setD {b : Bs} {G H : Hp} {σ : L2.St} {i : Nat} {v : V} {d : Dt} (S : Sl b G H σ Γ) (D : Da b.K G v d) (hi : i < Γ.length) : Sl b G H (σ.set i (some v)) (Γ.set i (.d d)) where
  gx := S.gx
  hx := S.hx
  px := S.px
  h1 := S.h1
  gh := S.gh
  ff := S.ff
  len := by rw [List.length_set, List.length_set]; exact S.len
  sl := fun j α q => by
    by_cases hj : i = j
    · subst hj
      rw [List.getElem?_set_self hi] at q
      cases q
      rw [List.getElem?_set_self (by rw [← S.len]; exact hi)]
      exact ⟨v, rfl, D⟩
    · rw [List.getElem?_set_ne hj] at q ⊢
      exact S.sl j α q
  nd := fun j k α β p h1 h2 h3 h4 h5 h6 => by
    by_cases hj : i = j
    · subst hj
      rw [List.getElem?_set_self hi] at h1
      cases h1
      cases h2
    · by_cases hk : i = k
      · subst hk
        rw [List.getElem?_set_self hi] at h4
        cases h4
        cases h5
      · rw [List.getElem?_set_ne hj] at h1 h3
        rw [List.getElem?_set_ne hk] at h4 h6
        exact S.nd j k α β p h1 h2 h3 h4 h5 h6
/-- a slot takes a new thing of its own -/
theorem Sl.setOwn {b : Bs} {G H : Hp} {σ : L2.St} {i : Nat} {p : Addr} {α : Arg} (S : Sl b G H σ Γ) (D : Slot b G H (some (some (.ref p))) α) (hi : i < Γ.length) (no : ∀ (j : Nat) β, Γ[j]? = some β → β.own = true → σ[j]? ≠ some (some (.ref p))) : Sl b G H (σ.set i (some (.ref p))) (Γ.set i α) where
  gx := S.gx
  hx := S.hx
  px := S.px
  h1 := S.h1
  gh := S.gh
  ff := S.ff
  len := by rw [List.length_set, List.length_set]; exact S.len
  sl := fun j β q => by
    by_cases hj : i = j
    · subst hj
      rw [List.getElem?_set_self hi] at q
      cases q
      rw [List.getElem?_set_self (by rw [← S.len]; exact hi)]
      exact D
    · rw [List.getElem?_set_ne hj] at q ⊢
      exact S.sl j β q
  nd := fun j k β γ q h1 h2 h3 h4 h5 h6 => by
    have hiσ : i < σ.length := by rw [← S.len]; exact hi
    by_cases hj : i = j
    · by_cases hk : i = k
      · exact hj.symm.trans hk
      · subst hj
        rw [List.getElem?_set_self hiσ] at h3
        cases h3
        rw [List.getElem?_set_ne hk] at h4 h6
        exact absurd h6 (no k γ h4 h5)
    · rw [List.getElem?_set_ne hj] at h1 h3
      by_cases hk : i = k
      · subst hk
        rw [List.getElem?_set_self hiσ] at h6
        cases h6
        exact absurd h3 (no j β h1 h2)
      · rw [List.getElem?_set_ne hk] at h4 h6
        exact S.nd j k β γ q h1 h2 h3 h4 h5 h6
theorem sv_asg {i : Nat} (h : Ev B te Γ fun d Γ' => i < Γ'.length ∧ A.nx (Γ'.set i (.d d))) : Sv B (tAsg te (gName i)) Γ A := fun gy hy w G H σ D S k1 _ _ _ =>
  h gy hy w G H σ S _ fun v d Γ' G' H' ⟨hi, hp⟩ s S' D' => k1 _ G' H' _ hp s (S'.setD D' hi)
theorem sv_asgN {i : Nat} (h : EvN B te Γ fun ds Γ' => i < Γ'.length ∧ A.nx (Γ'.set i (.l ds))) : Sv B (tAsg te (gName i)) Γ A := fun gy hy w G H σ D S k1 _ _ _ =>
  h gy hy w G H σ S _ fun p xs ds Γ' G' H' ⟨hi, hp⟩ s S' ⟨n1, n2, n4, n3, D', no⟩ => k1 _ G' H' _ hp s (S'.setOwn (p := p) (α := .l ds) ⟨p, xs, rfl, n1, n2, n4, n3, D'⟩ hi no)
end
end Cp
/-! Cp3: lists and dicts of a slot's own, targets, what loops walk, loops, comprehensions. -/
namespace Cp
open PySem PySem.Spec PyProof.Rows L2

def Dt.flat : Dt → Bool
  | .non => true
  | .bl _ => true
  | .int _ => true
  | .str _ => true
  | _ => false
theorem Da.flat {K : PySem.W.Frag} {G G' : Hp} {v : V} : ∀ {d : Dt}, d.flat = true → Da K G v d → Da K G' v d
  | .non, _, h => h
  | .bl _, _, h => h
  | .int _, _, h => h
  | .str _, _, h => h

section
variable {b : Bs} {G H : Hp} {σ : L2.St} {Γ : Env} {i : Nat} {p : Addr} {α α' : Arg} {o' : HO}
/-- the own thing of slot i is written -/
theorem Sl.write (S : Sl b G H σ Γ) (h : Γ[i]? = some α) (ow : α.own = true) (hs : σ[i]? = some (some (.ref p))) (new : Slot b G (upd H p o') (some (some (.ref p))) α') : Sl b G (upd H p o') σ (Γ.set i α') := by
  obtain ⟨a1, a2, o, a3⟩ := S.ownAt h ow hs
  have hi : i < Γ.length := (List.getElem?_eq_some_iff.mp h).1
  refine ⟨S.gx, fun c u q => ?_, S.px, fun c n => ?_, fun c u q => ?_, S.ff, by rw [List.length_set]; exact S.len, fun j β q => ?_, fun j k β γ q h1 h2 h3 h4 h5 h6 => ?_⟩
  · rw [upd_ne (ne_of_none q a2)]
    exact S.hx c u q
  · by_cases hc : c = p
    · rw [hc, upd_same]
      exact fun z => nomatch z
    · rw [upd_ne hc]
      exact S.h1 c n
  · rw [upd_ne (ne_of_none q a1)]
    exact S.gh c u q
  · by_cases hj : i = j
    · subst hj
      rw [List.getElem?_set_self hi] at q
      cases q
      rw [hs]
      exact new
    · rw [List.getElem?_set_ne hj] at q
      refine (S.sl j β q).move (Same.refl G) fun a o o1 o2 o3 o4 => ⟨o3, ?_⟩
      rw [upd_ne fun z => hj (S.nd i j α β p h ow hs q o1 (by rw [o2, z]))]
      exact o4
  · have own' : ∀ {m : Nat} {ε : Arg}, (Γ.set i α')[m]? = some ε → ε.own = true → ∃ ε', Γ[m]? = some ε' ∧ ε'.own = true := fun {m ε} e1 e2 => by
      by_cases hm : i = m
      · subst hm
        exact ⟨α, h, ow⟩
      · rw [List.getElem?_set_ne hm] at e1
        exact ⟨ε, e1, e2⟩
    obtain ⟨β', b1, b2⟩ := own' h1 h2
    obtain ⟨γ', c1, c2⟩ := own' h4 h5
    exact S.nd j k β' γ' q b1 b2 h3 c1 c2 h6
/-- the own list of slot i is known from now on -/
theorem Sl.frz (S : Sl b G H σ Γ) (h : Γ[i]? = some α) (ow : α.own = true) (hs : σ[i]? = some (some (.ref p))) (ho : H p = some o') (h0 : b.H0 p = none) {d : Dt} (D : Da b.K (upd G p o') (.ref p) d) :
    Same G (upd G p o') ∧ Sl b (upd G p o') H σ (Γ.set i (.d d)) := by
  obtain ⟨a1, a2, o, a3⟩ := S.ownAt h ow hs
  have hi : i < Γ.length := (List.getElem?_eq_some_iff.mp h).1
  have e1 : Same G (upd G p o') := same_new a1
  refine ⟨e1, S.gx.trans e1, S.hx, fun c q => by rw [upd_ne fun z => b.Hx.q c q (by rw [z]; exact a2)]; exact S.px c q, S.h1, fun c u q => ?_, fun c u q => ?_, by rw [List.length_set]; exact S.len, fun j β q => ?_, fun j k β γ q h1 h2 h3 h4 h5 h6 => ?_⟩
  · by_cases hc : c = p
    · subst hc
      rw [upd_same] at q
      rw [ho]
      exact q
    · rw [upd_ne hc] at q
      exact S.gh c u q
  · by_cases hc : c = p
    · exact .inr (hc ▸ h0)
    · rw [upd_ne hc] at q
      exact S.ff c u q
  · by_cases hj : i = j
    · subst hj
      rw [List.getElem?_set_self hi] at q
      cases q
      exact ⟨.ref p, hs, D⟩
    · rw [List.getElem?_set_ne hj] at q
      refine (S.sl j β q).move e1 fun a o o1 o2 o3 o4 => ⟨?_, o4⟩
      rw [upd_ne fun z => hj (S.nd i j α β p h ow hs q o1 (by rw [o2, z]))]
      exact o3
  · by_cases hj : i = j
    · subst hj
      rw [List.getElem?_set_self hi] at h1
      cases h1
      cases h2
    · by_cases hk : i = k
      · subst hk
        rw [List.getElem?_set_self hi] at h4
        cases h4
        cases h5
      · rw [List.getElem?_set_ne hj] at h1
        rw [List.getElem?_set_ne hk] at h4
        exact S.nd j k β γ q h1 h2 h3 h4 h5 h6
end

section
variable {B : Cs} {Γ : Env} {Φ : Dt → Env → Prop} {Ψ : Bool → Env → Prop} {Θ : List Dt → Env → Prop} {ta tb tc te tl : TE} {tt tu : TT} {t u : TS} {A : AE} {g : TG} {i : Nat}
/-! ### own lists read -/
theorem ev_frz {ds : List Dt} (h : Γ[i]? = some (.l ds)) (q : Φ (.lst ds) (Γ.set i (.d (.lst ds)))) : Ev B (tVar i) Γ Φ := fun gy hy _ G H σ S Q k => by
  obtain ⟨p, xs, h1, h2, h3, h4, h5, h6⟩ := S.sl i _ h
  have e1 : Same G (upd G p (.lst xs)) := same_new h2
  have D : Da B.K (upd G p (.lst xs)) (.ref p) (.lst ds) := ⟨p, xs, rfl, upd_same, DaL.up e1 _ h6⟩
  obtain ⟨s1, S1⟩ := S.frz h rfl h1 h5 h3 D
  exact ⟨.ref p, h1, k _ _ _ _ H q s1 S1 D⟩
theorem ev_frzK {ds : List (Key × Dt)} (h : Γ[i]? = some (.k ds)) (q : Φ (.dk ds) (Γ.set i (.d (.dk ds)))) : Ev B (tVar i) Γ Φ := fun gy hy _ G H σ S Q k => by
  obtain ⟨p, xs, h1, h2, h3, h4, h5, h6⟩ := S.sl i _ h
  have e1 : Same G (upd G p (.dK xs)) := same_new h2
  have D : Da B.K (upd G p (.dK xs)) (.ref p) (.dk ds) := ⟨p, xs, rfl, upd_same, DaK.up e1 _ h6⟩
  obtain ⟨s1, S1⟩ := S.frz h rfl h1 h5 h3 D
  exact ⟨.ref p, h1, k _ _ _ _ H q s1 S1 D⟩
theorem ev_frzT {ds : List (List Key × Dt)} (h : Γ[i]? = some (.t ds)) (q : Φ (.dt ds) (Γ.set i (.d (.dt ds)))) : Ev B (tVar i) Γ Φ := fun gy hy _ G H σ S Q k => by
  obtain ⟨p, xs, h1, h2, h3, h4, h5, h6⟩ := S.sl i _ h
  have e1 : Same G (upd G p (.dT xs)) := same_new h2
  have D : Da B.K (upd G p (.dT xs)) (.ref p) (.dt ds) := ⟨p, xs, rfl, upd_same, DaT.up e1 _ h6⟩
  obtain ⟨s1, S1⟩ := S.frz h rfl h1 h5 h3 D
  exact ⟨.ref p, h1, k _ _ _ _ H q s1 S1 D⟩
/-- a slot's own list, looked at -/
theorem look_own {b : Bs} {G H : Hp} {σ : L2.St} {ds : List Dt} (S : Sl b G H σ Γ) (h : Γ[i]? = some (.l ds)) : ∃ p xs, σ[i]? = some (some (.ref p)) ∧ H p = some (.lst xs) ∧ DaL b.K G xs ds ∧ Same G (upd G p (.lst xs)) ∧ Same (upd G p (.lst xs)) H := by
  obtain ⟨p, xs, h1, h2, h3, h4, h5, h6⟩ := S.sl i _ h
  refine ⟨p, xs, h1, h5, h6, same_new h2, fun c u q => ?_⟩
  by_cases hc : c = p
  · subst hc
    rw [upd_same] at q
    rw [h5]
    exact q
  · rw [upd_ne hc] at q
    exact S.gh c u q
/-- l r e, l a slot's own list, the answer flat -/
theorem ev_opL {r : R2} {ds0 : List Dt} (h0 : Γ[i]? = some (.l ds0)) (h : Ev B tb Γ fun d2 Γ2 => ∃ ds, Γ2[i]? = some (.l ds) ∧ ∃ d, d.flat = true ∧ OpD B.K r (.lst ds) d2 d ∧ Φ d Γ2) : Ev B (tOp r (tVar i) tb) Γ Φ := fun gy hy w G H σ S Q k => by
  obtain ⟨p0, xs0, e0, _⟩ := look_own S h0
  refine ⟨.ref p0, e0, h gy hy w G H σ S _ fun v d2 Γ2 G2 H2 ⟨ds, hi, d, hf, ho, hp⟩ s2 S2 D2 => ?_⟩
  obtain ⟨p, xs, e1, e2, e3, s3, s4⟩ := look_own S2 hi
  obtain rfl : p = p0 := by
    rw [e0] at e1
    cases e1
    rfl
  refine ho _ H2 (.ref p) v s4 ⟨p, xs, rfl, upd_same, DaL.up s3 _ e3⟩ (Da.up s3 _ D2) Q fun v' G3 H3 e D3 => ?_
  exact k v' d Γ2 G2 H3 hp s2 (S2.ext ⟨Same.refl _, e.h, S2.gh.trans e.h, fun _ _ z => .inl z⟩) (Da.flat hf D3)
theorem ev_cbL {r : List V → Hp → VK → Prop} {ds : List Dt} (h0 : Γ[i]? = some (.l ds)) {d : Dt} (hf : d.flat = true) (ho : CbD B.K r [.lst ds] d) (hp : Φ d Γ) : Ev B (tCB r (tCons (tVar i) tNil)) Γ Φ := fun gy hy w G H σ S Q k => by
  obtain ⟨p, xs, e1, e2, e3, s3, s4⟩ := look_own S h0
  refine ⟨.ref p, e1, ho _ H [.ref p] s4 ⟨.ref p, [], rfl, ⟨p, xs, rfl, upd_same, DaL.up s3 _ e3⟩, rfl⟩ Q fun v' G3 H3 e D3 => ?_⟩
  exact k v' d Γ G H3 hp (Same.refl G) (S.ext ⟨Same.refl _, e.h, S.gh.trans e.h, fun _ _ z => .inl z⟩) (Da.flat hf D3)
/-- l[e], l a slot's own list -/
theorem ev_ixL {ds0 : List Dt} (h0 : Γ[i]? = some (.l ds0)) (h : Ev B tb Γ fun d2 Γ2 => ∃ ds n d, Γ2[i]? = some (.l ds) ∧ d2 = .int n ∧ atI ds n = some d ∧ Φ d Γ2) : Ev B (tOp (rIxL B.K) (tVar i) tb) Γ Φ := fun gy hy w G H σ S Q k => by
  obtain ⟨p0, xs0, e0, _⟩ := look_own S h0
  refine ⟨.ref p0, e0, h gy hy w G H σ S _ fun v d2 Γ2 G2 H2 ⟨ds, n, d, hi, hn, ha, hp⟩ s2 S2 D2 => ?_⟩
  obtain ⟨p, xs, e1, e2, e3, s3, s4⟩ := look_own S2 hi
  obtain rfl : p = p0 := by
    rw [e0] at e1
    cases e1
    rfl
  subst hn
  have e4 : v = .int n := D2
  subst e4
  have hl := DaL.len e3
  unfold atI at ha
  cases hx : ixN ds.length n with
  | none =>
    rw [hx] at ha
    cases ha
  | some j =>
    rw [hx] at ha
    obtain ⟨u, q1, q2⟩ := DaL.get e3 ha
    exact ⟨p, xs, n, u, rfl, rfl, .inl (.inl e2), by unfold atI; rw [hl, hx]; exact q1, k u d Γ2 G2 H2 hp s2 S2 q2⟩

/-! ### own lists written -/
theorem sv_app {ds0 : List Dt} (h0 : Γ[i]? = some (.l ds0)) (h : Ev B te Γ fun d Γ' => ∃ ds, Γ'[i]? = some (.l ds) ∧ ds.length < 100000 ∧ A.nx (Γ'.set i (.l (ds ++ [d])))) : Sv B (tDrop (tBM B.K "list" rAppend (tVar i) (tCons te tNil))) Γ A := fun gy hy w G H σ D S k1 _ _ _ => by
  obtain ⟨p0, xs0, e0, e0', _⟩ := look_own S h0
  refine ⟨.ref p0, e0, .inl ⟨rfl, xs0, .inl (.inl e0')⟩, h gy hy w G H σ S _ fun v d Γ' G' H' ⟨ds, hi, hl, hp⟩ s' S' D' => ?_⟩
  obtain ⟨p, xs, e1, q1, q2, q3, q4, q5⟩ := S'.sl i _ hi
  obtain rfl : p = p0 := by
    rw [e0] at e1
    cases e1
    rfl
  refine ⟨p, xs, v, rfl, rfl, q4, by rw [DaL.len q5]; exact Nat.lt_of_lt_of_le hl (by decide), k1 _ G' _ σ hp s' (S'.write hi rfl e1 ?_)⟩
  exact ⟨p, xs ++ [v], rfl, q1, q2, q3, upd_same, DaL.snoc q5 D'⟩
/-- l[e] = value -/
theorem sv_setL {ds0 : List Dt} (h : Ev B te Γ fun d Γ1 => ∃ ds1, Γ1[i]? = some (.l ds1) ∧ Ev B tb Γ1 fun d2 Γ2 => ∃ ds n j, Γ2[i]? = some (.l ds) ∧ d2 = .int n ∧ ixN ds.length n = some j ∧ A.nx (Γ2.set i (.l (ds.set j d)))) : Sv B (tAsg te (gSub (tVar i) tb rSetL)) Γ A := fun gy hy w G H σ D S k1 _ _ _ => by
  refine h gy hy w G H σ S _ fun v d Γ1 G1 H1 ⟨ds1, hi1, h1⟩ s1 S1 D1 => ?_
  obtain ⟨p0, xs0, e0, e0', _⟩ := look_own S1 hi1
  refine ⟨.ref p0, e0, h1 gy hy w G1 H1 σ S1 _ fun v2 d2 Γ2 G2 H2 ⟨ds, n, j, hi, hn, hj, hp⟩ s2 S2 D2 => ?_⟩
  obtain ⟨p, xs, e1, q1, q2, q3, q4, q5⟩ := S2.sl i _ hi
  obtain rfl : p = p0 := by
    rw [e0] at e1
    cases e1
    rfl
  subst hn
  have e4 : v2 = .int n := D2
  subst e4
  refine ⟨p, xs, n, j, rfl, rfl, q4, by rw [DaL.len q5]; exact hj, k1 _ G2 _ σ hp (s1.trans s2) (S2.write hi rfl e1 ?_)⟩
  exact ⟨p, xs.set j v, rfl, q1, q2, q3, upd_same, DaL.set j q5 (Da.up s2 d D1)⟩
/-- l.pop(e) -/
theorem ev_popAt {ds0 : List Dt} (h0 : Γ[i]? = some (.l ds0)) (h : Ev B te Γ fun d Γ' => ∃ (ds : List Dt) (j : Nat) (y : Dt), Γ'[i]? = some (.l ds) ∧ d = .int (j : Int) ∧ ds[j]? = some y ∧ j < 100000 ∧ Φ y (Γ'.set i (.l (ds.eraseIdx j)))) : Ev B (tBM B.K "list" rPopAt (tVar i) (tCons te tNil)) Γ Φ := fun gy hy w G H σ S Q k => by
  obtain ⟨p0, xs0, e0, e0', _⟩ := look_own S h0
  refine ⟨.ref p0, e0, .inl ⟨rfl, xs0, .inl (.inl e0')⟩, h gy hy w G H σ S _ fun v d Γ' G' H' ⟨ds, j, y, hi, hd, hy', hj, hp⟩ s' S' D' => ?_⟩
  obtain ⟨p, xs, e1, q1, q2, q3, q4, q5⟩ := S'.sl i _ hi
  obtain rfl : p = p0 := by
    rw [e0] at e1
    cases e1
    rfl
  subst hd
  have e4 : v = .int (j : Int) := D'
  subst e4
  obtain ⟨u, z1, z2⟩ := DaL.get q5 hy'
  have hjl : j < xs.length := (List.getElem?_eq_some_iff.mp z1).1
  refine ⟨p, xs, (j : Int), j, u, rfl, rfl, q4, by omega, by omega, ?_, z1, k u y _ G' _ hp s' (S'.write hi rfl e1 ?_) z2⟩
  · have z := ixN_seq (n := xs.length) (i := (j : Int)) (j := j) (by unfold ixN; rw [if_pos (by omega), if_pos (by omega)]; simp)
    exact z.1
  · exact ⟨p, xs.eraseIdx j, rfl, q1, q2, q3, upd_same, DaL.erase j q5⟩

/-! ### targets -/
variable {K : PySem.W.Frag} {js : List Nat} {d : Dt} {Ω : Env → Prop}
theorem wipe_set {σ : L2.St} {j : Nat} {x : Option V} : ∀ {vs : List Nat}, j ∈ vs → wipe (σ.set j x) vs = wipe σ vs
  | [], h => nomatch h
  | v :: vs, h => by
    show (wipe (σ.set j x) vs).set v none = (wipe σ vs).set v none
    by_cases hv : j ∈ vs
    · rw [wipe_set hv]
    · have e : j = v := (List.mem_cons.mp h).resolve_right hv
      subst e
      have q : ∀ (ws : List Nat), j ∉ ws → wipe (σ.set j x) ws = (wipe σ ws).set j x := by
        intro ws
        induction ws with
        | nil => intro _; rfl
        | cons z ws ih =>
          intro hn
          show (wipe (σ.set j x) ws).set z none = ((wipe σ ws).set z none).set j x
          rw [ih fun y => hn (List.mem_cons_of_mem _ y), List.set_comm _ _ fun y => hn (by rw [y]; exact List.mem_cons_self)]
      rw [q vs hv, List.set_set]
theorem tg_name (h : i < Γ.length) (q : Ω (Γ.set i (.d d))) : Tg K (gName i) [i] d Γ Ω := fun b hb G H σ v Q S D k =>
  k _ _ q (S.setD (by rw [hb]; exact D) h) fun vs hv => wipe_set (hv i (List.mem_cons_self))
theorem tgl_nil (q : Ω Γ) : TgL K gNil [] [] Γ Ω := fun b hb G H σ vs Q S D k => ⟨D, k Γ σ q S fun _ _ => rfl⟩
theorem tgl_cons {g : TG} {gs : TGs} {js js' : List Nat} {d : Dt} {ds : List Dt} (h : Tg K g js d Γ fun Γ1 => TgL K gs js' ds Γ1 Ω) : TgL K (gCons g gs) (js ++ js') (d :: ds) Γ Ω := fun b hb G H σ vs Q S ⟨v, r, e, D, D'⟩ k =>
  ⟨v, r, e, h b hb G H σ v _ S D fun Γ1 σ1 h1 S1 w1 => h1 b hb G H σ1 r Q S1 D' fun Γ2 σ2 h2 S2 w2 => k Γ2 σ2 h2 S2 fun vs hv => (w2 vs fun j hj => hv j (List.mem_append_right _ hj)).trans (w1 vs fun j hj => hv j (List.mem_append_left _ hj))⟩
theorem tg_tup {gs : TGs} {n : Nat} {ds : List Dt} (hn : ds.length = n) (h : TgL K gs js ds Γ Ω) : Tg K (gTup K n gs) js (.tup ds) Γ Ω := fun b hb G H σ v Q S ⟨a, xs, e, D1, D2⟩ k =>
  ⟨a, xs, e, .inl (.inl (S.gh _ _ D1)), (DaL.len D2).trans hn, h b hb G H σ xs Q S D2 k⟩
theorem tg_sqt {gs : TGs} {n : Nat} {ds : List Dt} (hn : ds.length = n) (h : TgL K gs js ds Γ Ω) : Tg K (gTup K n gs) js (.sqt ds) Γ Ω := fun b hb G H σ v Q S ⟨a, xs, e, D1, D2⟩ k =>
  ⟨a, xs, e, Same.tup S.gh D1, (DaL.len D2).trans hn, h b hb G H σ xs Q S D2 k⟩
/-- target = value -/
theorem sv_asgT (h : Ev B te Γ fun d Γ' => Tg B.K g js d Γ' A.nx) : Sv B (tAsg te g) Γ A := fun gy hy w G H σ D S k1 _ _ _ =>
  h gy hy w G H σ S _ fun v d Γ' G' H' hp s S' D' => hp (B.b gy hy) rfl G' H' σ v _ S' D' fun Γ2 σ2 h2 S2 _ => k1 Γ2 G' H' σ2 h2 s S2

/-! ### what is walked -/
variable {Λ : Nat → (Nat → Dt) → Env → Prop}
/-- n items -/
def Src (B : Cs) (wi : TI) (Γ : Env) (Φ : Nat → (Nat → Dt) → Env → Prop) : Prop := ∀ gy hy, Wy B gy hy → ∀ (G H : Hp) (σ : L2.St), Sl (B.b gy hy) G H σ Γ → ∀ R : It → Hp → Prop,
  (∀ J n item Γ' G' H', Φ n item Γ' → Same G G' → Sl (B.b gy hy) G' H' σ Γ' →
    (∀ i G2 H2, Same G' G2 → Same G2 H2 → (i < n → J.go i H2 ∧ ∀ x H3, J.yld i H2 x H3 → ∃ G3, Ext G2 H2 G3 H3 ∧ Da B.K G3 x (item i)) ∧ (n ≤ i → J.stop i H2)) → R J H') → wi σ H R
def itemOf (ds : List Dt) (i : Nat) : Dt := ds.getD i .non
theorem itemOf_get {ds : List Dt} {i : Nat} (h : i < ds.length) : ds[i]? = some (itemOf ds i) := by
  unfold itemOf
  rw [List.getD_eq_getElem?_getD, List.getElem?_eq_getElem h]
  rfl
theorem src_list (h : Ev B tl Γ fun d Γ1 => ∃ ds, (d = .lst ds ∨ d = .sq ds) ∧ Λ ds.length (itemOf ds) Γ1) : Src B (iList B.K tl) Γ Λ := fun gy hy w G H σ S R k =>
  h gy hy w G H σ S _ fun v d Γ1 G1 H1 ⟨ds, hd, hp⟩ s1 S1 D1 => by
    obtain ⟨a, xs, e, q, D⟩ : ∃ a xs, v = .ref a ∧ SqL B.K G1 a xs ∧ DaL B.K G1 xs ds := by
      rcases hd with hd | hd
      · subst hd
        obtain ⟨a, xs, e, q, D⟩ := D1
        exact ⟨a, xs, e, .inl (.inl q), D⟩
      · subst hd
        exact D1
    refine ⟨a, e, ⟨xs, Same.seq S1.gh q⟩, k _ _ _ Γ1 G1 H1 hp s1 S1 fun i G2 H2 s2 s3 => ⟨fun hi => ?_, fun hi => ⟨xs, Same.seq (s2.trans s3) q, by rw [DaL.len D]; exact hi⟩⟩⟩
    obtain ⟨u, q1, q2⟩ := DaL.get D (itemOf_get hi)
    refine ⟨⟨xs, u, Same.seq (s2.trans s3) q, q1⟩, fun x H3 ⟨e1, e2⟩ => ?_⟩
    have e3 := e2 xs (Same.seq (s2.trans s3) q)
    rw [q1] at e3
    cases e3
    subst e1
    exact ⟨G2, Ext.rfl' s3, Da.up s2 _ q2⟩
theorem src_tup (h : Ev B tl Γ fun d Γ1 => ∃ ds, (d = .tup ds ∨ d = .sqt ds) ∧ Λ ds.length (itemOf ds) Γ1) : Src B (iTup B.K tl) Γ Λ := fun gy hy w G H σ S R k =>
  h gy hy w G H σ S _ fun v d Γ1 G1 H1 ⟨ds, hd, hp⟩ s1 S1 D1 => by
    obtain ⟨a, xs, e, q, D⟩ : ∃ a xs, v = .ref a ∧ SqT B.K G1 a xs ∧ DaL B.K G1 xs ds := by
      rcases hd with hd | hd
      · subst hd
        obtain ⟨a, xs, e, q, D⟩ := D1
        exact ⟨a, xs, e, .inl (.inl q), D⟩
      · subst hd
        exact D1
    refine ⟨a, e, ⟨xs, Same.tup S1.gh q⟩, k _ _ _ Γ1 G1 H1 hp s1 S1 fun i G2 H2 s2 s3 => ⟨fun hi => ?_, fun hi => ⟨xs, Same.tup (s2.trans s3) q, by rw [DaL.len D]; exact hi⟩⟩⟩
    obtain ⟨u, q1, q2⟩ := DaL.get D (itemOf_get hi)
    refine ⟨⟨xs, u, Same.tup (s2.trans s3) q, q1⟩, fun x H3 ⟨e1, e2⟩ => ?_⟩
    have e3 := e2 xs (Same.tup (s2.trans s3) q)
    rw [q1] at e3
    cases e3
    subst e1
    exact ⟨G2, Ext.rfl' s3, Da.up s2 _ q2⟩
theorem src_range {t : TA} (h : EvA B t Γ fun ds Γ1 => ∃ n : Int, ds = [.int n] ∧ -(2 ^ 62) ≤ n ∧ n < 2 ^ 62 ∧ Λ n.toNat (fun i => .int (i : Int)) Γ1) : Src B (iRng1 t) Γ Λ := fun gy hy w G H σ S R k =>
  h gy hy w G H σ S _ fun vs ds Γ1 G1 H1 ⟨n, hd, n1, n2, hp⟩ s1 S1 D1 => by
    subst hd
    obtain ⟨v, r, e1, e2, e3⟩ := D1
    have e4 : r = [] := e3
    have e5 : v = .int n := e2
    subst e4 e5
    refine ⟨n, e1, n1, n2, k _ _ _ Γ1 G1 H1 hp s1 S1 fun i G2 H2 s2 s3 => ⟨fun hi => ⟨hi, fun x H3 ⟨y1, y2⟩ => ?_⟩, fun hi => hi⟩⟩
    subst y1
    exact ⟨G2, Ext.rfl' s3, by rw [y2, Int.zero_add]; rfl⟩

/-! ### for -/
theorem sv_for {wi : TI} (h : Src B wi Γ fun n item Γ1 => ∃ I : Nat → Env → Prop, I 0 Γ1 ∧ (∀ i Γ2, i < n → I i Γ2 → Tg B.K g js (item i) Γ2 fun Γ3 => Sv B t Γ3 { A with nx := I (i + 1), ct := I (i + 1), bk := A.nx }) ∧ ∀ Γ2, I n Γ2 → A.nx Γ2) : Sv B (tFor wi g t) Γ A := fun gy hy w G H σ D S k1 k2 k3 k4 =>
  h gy hy w G H σ S _ fun J n item Γ1 G1 H1 ⟨I, h0, hs, he⟩ s1 S1 jj => by
    refine ⟨fun i m σ' H' => m = n - i ∧ i ≤ n ∧ ∃ Γ' G', I i Γ' ∧ Same G1 G' ∧ Sl (B.b gy hy) G' H' σ' Γ', ⟨n, by omega, Nat.zero_le _, Γ1, G1, h0, Same.refl _, S1⟩, ?_⟩
    rintro i m σ' H' ⟨rfl, hi, Γ', G', hI, s', S'⟩
    by_cases hlt : i < n
    · obtain ⟨j1, j2⟩ := (jj i G' H' s' S'.gh).1 hlt
      refine .inr ⟨j1, fun σ2 H2 => ∃ Γ2 G2, I (i + 1) Γ2 ∧ Same G1 G2 ∧ Sl (B.b gy hy) G2 H2 σ2 Γ2, fun σ2 H2 q => ⟨n - (i + 1), by omega, rfl, hlt, q⟩, fun x H3 y => ?_⟩
      obtain ⟨G3, e3, D3⟩ := j2 x H3 y
      refine hs i Γ' hlt hI (B.b gy hy) rfl G3 H3 σ' x _ (S'.ext e3) D3 fun Γ4 σ4 h4 S4 _ => ?_
      exact h4 gy hy w G3 H3 σ4 _ S4 (fun Γ5 G5 H5 σ5 h5 s5 S5 => ⟨Γ5, G5, h5, (s'.trans e3.g).trans s5, S5⟩)
        (fun d v Γ5 G5 H5 σ5 h5 s5 S5 => k2 d v Γ5 G5 H5 σ5 h5 (((s1.trans s').trans e3.g).trans s5) S5)
        (fun Γ5 G5 H5 σ5 h5 s5 S5 => k1 Γ5 G5 H5 σ5 h5 (((s1.trans s').trans e3.g).trans s5) S5)
        (fun Γ5 G5 H5 σ5 h5 s5 S5 => ⟨Γ5, G5, h5, (s'.trans e3.g).trans s5, S5⟩)
    · have e : i = n := by omega
      subst e
      exact .inl ⟨(jj i G' H' s' S'.gh).2 (Nat.le_refl _), k1 Γ' G' H' σ' (he Γ' hI) (s1.trans s') S'⟩
/-- while: a word that falls -/
theorem sv_while {c : TT} (I : Nat → Env → Prop) (m : Nat) (h0 : I m Γ) (hs : ∀ m Γ2, I m Γ2 → EvT B c Γ2 fun x Γ3 => if x = true then Sv B t Γ3 { A with nx := fun Γ' => ∃ m', m' < m ∧ I m' Γ', ct := fun Γ' => ∃ m', m' < m ∧ I m' Γ', bk := A.nx } else A.nx Γ3) : Sv B (tWhile c t) Γ A := fun gy hy w G H σ D S k1 k2 k3 k4 => by
  refine ⟨fun m σ' H' => ∃ Γ' G', I m Γ' ∧ Same G G' ∧ Sl (B.b gy hy) G' H' σ' Γ', ⟨m, Γ, G, h0, Same.refl _, S⟩, ?_⟩
  rintro m σ' H' ⟨Γ', G', hI, s', S'⟩
  refine hs m Γ' hI gy hy w G' H' σ' S' _ fun x Γ3 G3 H3 h3 s3 S3 => ?_
  cases x with
  | true =>
    refine ⟨fun σ2 H2 => ∃ m', m' < m ∧ ∃ Γ2 G2, I m' Γ2 ∧ Same G G2 ∧ Sl (B.b gy hy) G2 H2 σ2 Γ2, fun σ2 H2 q => q, ?_⟩
    exact h3 gy hy w G3 H3 σ' _ S3 (fun Γ5 G5 H5 σ5 ⟨m', hm, h5⟩ s5 S5 => ⟨m', hm, Γ5, G5, h5, (s'.trans s3).trans s5, S5⟩)
      (fun d v Γ5 G5 H5 σ5 h5 s5 S5 => k2 d v Γ5 G5 H5 σ5 h5 ((s'.trans s3).trans s5) S5)
      (fun Γ5 G5 H5 σ5 h5 s5 S5 => k1 Γ5 G5 H5 σ5 h5 ((s'.trans s3).trans s5) S5)
      (fun Γ5 G5 H5 σ5 ⟨m', hm, h5⟩ s5 S5 => ⟨m', hm, Γ5, G5, h5, (s'.trans s3).trans s5, S5⟩)
  | false => exact k1 Γ3 G3 H3 σ' h3 (s'.trans s3) S3
end
end Cp
/-! Cp4: comprehensions, slices, operators and built-ins on data, promises and calls. -/
namespace Cp
open PySem PySem.Spec PyProof.Rows L2

/-! ### comprehensions -/
def wipeE (Γ : Env) : List Nat → Env
  | [] => Γ
  | v :: vs => (wipeE Γ vs).set v .any
def noOwn (vs : List Nat) (Γ : Env) : Bool := vs.all fun j => !((Γ[j]?.map Arg.own).getD false)
section
variable {b : Bs} {G H : Hp} {σ : L2.St} {Γ : Env}
theorem Sl.forget (S : Sl b G H σ Γ) (i : Nat) : Sl b G H (σ.set i none) (Γ.set i .any) := by
  refine ⟨S.gx, S.hx, S.px, S.h1, S.gh, S.ff, by rw [List.length_set, List.length_set]; exact S.len, fun j α q => ?_, fun j k α β p h1 h2 h3 h4 h5 h6 => ?_⟩
  · by_cases hj : i = j
    · subst hj
      have hi : i < Γ.length := by
        have z := (List.getElem?_eq_some_iff.mp q).1
        rw [List.length_set] at z
        exact z
      rw [List.getElem?_set_self hi] at q
      cases q
      trivial
    · rw [List.getElem?_set_ne hj] at q ⊢
      exact S.sl j α q
  · have ne : ∀ {m : Nat} {ε : Arg}, (Γ.set i .any)[m]? = some ε → ε.own = true → i ≠ m := fun {m ε} e1 e2 z => by
      subst z
      have hi : i < Γ.length := by
        have z := (List.getElem?_eq_some_iff.mp e1).1
        rw [List.length_set] at z
        exact z
      rw [List.getElem?_set_self hi] at e1
      cases e1
      cases e2
    have nj := ne h1 h2
    have nk := ne h4 h5
    rw [List.getElem?_set_ne nj] at h1 h3
    rw [List.getElem?_set_ne nk] at h4 h6
    exact S.nd j k α β p h1 h2 h3 h4 h5 h6
theorem Sl.wipe (S : Sl b G H σ Γ) : ∀ vs : List Nat, Sl b G H (wipe σ vs) (wipeE Γ vs)
  | [] => S
  | v :: vs => (S.wipe vs).forget v
end
theorem wipe_get (σ : L2.St) (i : Nat) : ∀ vs : List Nat, (wipe σ vs)[i]? = if i ∈ vs then σ[i]?.map fun _ => none else σ[i]?
  | [] => by rw [if_neg (by simp)]; rfl
  | v :: vs => by
    show ((wipe σ vs).set v none)[i]? = _
    have ih := wipe_get σ i vs
    by_cases hv : v = i
    · subst hv
      rw [if_pos (List.mem_cons_self)]
      cases z : σ[v]? with
      | none =>
        have hl : σ.length ≤ v := List.getElem?_eq_none_iff.mp z
        have hl' : ((wipe σ vs).set v none).length ≤ v := by rw [List.length_set, wipe_length]; exact hl
        rw [List.getElem?_eq_none_iff.mpr hl']
        rfl
      | some x =>
        have hl : v < (wipe σ vs).length := by rw [wipe_length]; exact (List.getElem?_eq_some_iff.mp z).1
        rw [List.getElem?_set_self hl]
        rfl
    · rw [List.getElem?_set_ne hv, ih]
      by_cases hm : i ∈ vs
      · rw [if_pos hm, if_pos (List.mem_cons_of_mem _ hm)]
      · rw [if_neg hm, if_neg fun z => (List.mem_cons.mp z).elim (fun q => hv q.symm) hm]
theorem wipe_wipe (σ : L2.St) (vs : List Nat) : wipe (wipe σ vs) vs = wipe σ vs := by
  refine List.ext_getElem? fun i => ?_
  rw [wipe_get, wipe_get]
  by_cases h : i ∈ vs
  · rw [if_pos h, if_pos h]
    cases σ[i]? <;> rfl
  · rw [if_neg h, if_neg h]
section
variable {B : Cs} {Γ : Env} {Φ : Dt → Env → Prop} {Θ : List Dt → Env → Prop} {ta tb te tl : TE} {tt : TT} {A : AE} {g : TG} {js vs : List Nat}
/-- the outer slots behind a block's turn -/
theorem Sl.unblock {b : Bs} {G G' H' : Hp} {σ σ2 : L2.St} {Γ1 Γ5 : Env} {Hy : Gh} (S : ∀ (i : Nat) α, Γ1[i]? = some α → α.own = false → Slot b G H' (σ[i]?) α) (e : Same G G') (len : Γ1.length = σ.length) (S5 : Sl { b with Hx := Hy } G' H' σ2 Γ5) (w : L2.wipe σ2 vs = L2.wipe σ vs) (wE : wipeE Γ5 vs = wipeE Γ1 vs) (no : noOwn vs Γ1 = true)
    (hx : Same b.Hx.h Hy.h) (hp : ∀ c, b.Hx.p c → Hy.p c) : Sl b G' H' σ Γ1 := by
  have out : ∀ {i : Nat} {α : Arg}, Γ1[i]? = some α → α.own = true → i ∉ vs := fun {i α} h1 h2 hm => by
    have z := List.all_eq_true.mp no i hm
    rw [h1] at z
    have z2 : (!α.own) = true := z
    rw [h2] at z2
    cases z2
  have wE_get : ∀ (Δ : Env) (i : Nat) (ws : List Nat), i ∉ ws → (wipeE Δ ws)[i]? = Δ[i]? := by
    intro Δ i ws
    induction ws with
    | nil => intro _; rfl
    | cons v ws ih =>
      intro hn
      show ((wipeE Δ ws).set v .any)[i]? = Δ[i]?
      rw [List.getElem?_set_ne (fun z => hn (by rw [z]; exact List.mem_cons_self)), ih fun z => hn (List.mem_cons_of_mem _ z)]
  have same : ∀ {i : Nat}, i ∉ vs → Γ5[i]? = Γ1[i]? ∧ σ2[i]? = σ[i]? := fun {i} hn => by
    refine ⟨?_, ?_⟩
    · rw [← wE_get Γ5 i vs hn, ← wE_get Γ1 i vs hn, wE]
    · have z : (L2.wipe σ2 vs)[i]? = (L2.wipe σ vs)[i]? := by rw [w]
      rw [wipe_get, wipe_get, if_neg hn, if_neg hn] at z
      exact z
  refine ⟨S5.gx, hx.trans S5.hx, fun c q => S5.px c (hp c q), S5.h1, S5.gh, S5.ff, len, fun i α q => ?_, fun i j α β p h1 h2 h3 h4 h5 h6 => ?_⟩
  · cases ho : α.own with
    | false => exact (S i α q ho).move e fun p o o1 _ _ _ => by rw [ho] at o1; cases o1
    | true =>
      obtain ⟨s1, s2⟩ := same (out q ho)
      have z := S5.sl i α (s1.trans q)
      rw [s2] at z
      cases α with
      | any => cases ho
      | v u => cases ho
      | d d => cases ho
      | l ds =>
        obtain ⟨p, xs, a1, a2, a3, a4, a5⟩ := z
        exact ⟨p, xs, a1, a2, a3, hx.free a4, a5⟩
      | k ds =>
        obtain ⟨p, xs, a1, a2, a3, a4, a5⟩ := z
        exact ⟨p, xs, a1, a2, a3, hx.free a4, a5⟩
      | t ds =>
        obtain ⟨p, xs, a1, a2, a3, a4, a5⟩ := z
        exact ⟨p, xs, a1, a2, a3, hx.free a4, a5⟩
      | box p m =>
        obtain ⟨a1, a2, a3, a5⟩ := z
        exact ⟨a1, a2, hx.free a3, a5⟩
  · obtain ⟨s1, s2⟩ := same (out h1 h2)
    obtain ⟨t1, t2⟩ := same (out h4 h5)
    exact S5.nd i j α β p (s1.trans h1) h2 (s2.trans h3) (t1.trans h4) h5 (t2.trans h6)
/-- [elt for target in source if test]: I of the turn and of what is made so far -/
theorem en_lc {wi : TI} (hj : ∀ j ∈ js, j ∈ vs) (h : Src B wi Γ fun n item Γ1 => n ≤ 100000 ∧ noOwn vs Γ1 = true ∧ ∃ I : Nat → List Dt → Prop, I 0 [] ∧
    (∀ i acc, i < n → I i acc → Tg B.K g js (item i) (wipeE Γ1 vs) fun Γ3 => EvT B tt Γ3 fun c Γ4 => if c = true then Ev B te Γ4 fun y Γ5 => wipeE Γ5 vs = wipeE Γ1 vs ∧ I (i + 1) (acc ++ [y]) else wipeE Γ4 vs = wipeE Γ1 vs ∧ I (i + 1) acc) ∧
    ∀ acc, I n acc → Θ acc Γ1) : EvN B (tLc wi g tt te vs) Γ Θ := fun gy hy w G H σ S Q k =>
  h gy hy w G H σ S _ fun J n item Γ1 G1 H1 ⟨hn, hno, I, h0, hs, he⟩ s1 S1 jj => fun D nD => by
    have neD : ∀ (j : Nat) β p, Γ1[j]? = some β → β.own = true → σ[j]? = some (some (.ref p)) → p ≠ D := fun j β p q1 q2 q3 z => own_fresh S1 nD j β q1 q2 (by rw [q3, z])
    have hyD : hy.h D = none := S1.hx.free nD
    refine ⟨fun i m H' => m = n - i ∧ i ≤ n ∧ ∃ acc accV G', I i acc ∧ acc.length ≤ i ∧ Same G1 G' ∧ G' D = none ∧ H' D = some (.lst accV) ∧ DaL B.K G' accV acc ∧ Sl (B.b gy hy) G' H' σ Γ1,
      ⟨n, by omega, Nat.zero_le _, [], [], G1, h0, Nat.le_refl _, Same.refl _, S1.gh.free nD, upd_same, rfl, S1.ext (Ext.newH S1.gh nD)⟩, ?_⟩
    rintro i m H' ⟨rfl, hi, acc, accV, G', hI, hl, s', gD, hD, dD, S'⟩
    by_cases hlt : i < n
    · obtain ⟨j1, j2⟩ := (jj i G' H' s' S'.gh).1 hlt
      refine .inr ⟨j1, fun H2 => ∃ acc accV G2, I (i + 1) acc ∧ acc.length ≤ i + 1 ∧ Same G1 G2 ∧ G2 D = none ∧ H2 D = some (.lst accV) ∧ DaL B.K G2 accV acc ∧ Sl (B.b gy hy) G2 H2 σ Γ1, fun H2 q => ⟨n - (i + 1), by omega, rfl, hlt, q⟩, fun x H3 y => ?_⟩
      obtain ⟨G3, e3, D3⟩ := j2 x H3 y
      have S3 := S'.ext e3
      have g3D : G3 D = none := e3.none gD hD
      have h3D : H3 D = some (.lst accV) := e3.h _ _ hD
      let hy2 : Gh := ⟨upd hy.h D (.lst accV), fun c => hy.p c ∨ c = D, fun c q => by
        by_cases hc : c = D
        · rw [hc, upd_same]
          exact fun z => nomatch z
        · rw [upd_ne hc]
          exact hy.q c (q.resolve_right hc)⟩
      have hx2 : Same hy.h hy2.h := same_new hyD
      have T3 : Sl (B.b gy hy2) G3 H3 σ Γ1 := Sl.base (b := B.b gy hy) (Gy := gy) (Hy := hy2) S3 S3.gx (fun c u q => by
        by_cases hc : c = D
        · subst hc
          have q' : upd hy.h c (.lst accV) c = some u := q
          rw [upd_same] at q'
          rw [h3D]
          exact q'
        · have q' : upd hy.h D (.lst accV) c = some u := q
          rw [upd_ne hc] at q'
          exact S3.hx c u q') (fun c q => q.elim (S3.px c) fun z => by rw [z]; exact g3D) fun j β p q1 q2 q3 => by
            show upd hy.h D (.lst accV) p = none
            rw [upd_ne (neD j β p q1 q2 q3)]
            exact (S3.ownAt q1 q2 q3).2.1
      have w2 : Wy B gy hy2 := ⟨w.wok, w.gy, w.hy.trans hx2, fun c q => .inl (w.hp c q)⟩
      have fin : ∀ {σ3 : L2.St} {Γ5 : Env} {G5 H5 : Hp}, Sl (B.b gy hy2) G5 H5 σ3 Γ5 → Same G3 G5 → L2.wipe σ3 vs = L2.wipe (L2.wipe σ vs) vs → wipeE Γ5 vs = wipeE Γ1 vs → Sl (B.b gy hy) G5 H5 σ Γ1 := fun {σ3 Γ5 G5 H5} S5 s5 w5 e5 =>
        Sl.unblock (b := B.b gy hy) (G := G3) (Hy := hy2) (fun i α q1 q2 => by
          have z := S3.sl i α q1
          exact z.move (Same.refl _) fun p o o1 _ _ _ => by rw [q2] at o1; cases o1) s5 S3.len S5 (w5.trans (wipe_wipe σ vs)) e5 hno hx2 fun c q => .inl q
      have at5 : ∀ {σ3 : L2.St} {Γ5 : Env} {G5 H5 : Hp}, Sl (B.b gy hy2) G5 H5 σ3 Γ5 → H5 D = some (.lst accV) ∧ G5 D = none := fun {σ3 Γ5 G5 H5} S5 => ⟨S5.hx D _ upd_same, S5.px D (.inr rfl)⟩
      refine hs i acc hlt hI (B.b gy hy2) rfl G3 H3 (L2.wipe σ vs) x _ (T3.wipe vs) D3 fun Γ3 σ3 h3 S4 w4 => ?_
      refine ⟨(w4 vs hj).trans (wipe_wipe σ vs), h3 gy hy2 w2 G3 H3 σ3 S4 _ fun c Γ4 G4 H4 h4 s4 S5 => ?_⟩
      cases c with
      | true =>
        refine h4 gy hy2 w2 G4 H4 σ3 S5 _ fun v d Γ5 G5 H5 ⟨e5, hI5⟩ s5 S6 D6 => ?_
        obtain ⟨a1, a2⟩ := at5 S6
        have S7 := fin S6 (s4.trans s5) (w4 vs hj) e5
        have D7 : DaL B.K G5 (accV ++ [v]) (acc ++ [d]) := DaL.snoc (DaL.up ((e3.g.trans s4).trans s5) _ dD) D6
        refine ⟨accV, a1, by rw [DaL.len dD]; exact Nat.lt_of_le_of_lt hl (Nat.lt_of_lt_of_le hlt (Nat.le_trans hn (by decide))), acc ++ [d], accV ++ [v], G5, hI5, by rw [List.length_append]; exact Nat.succ_le_succ hl, ((s'.trans e3.g).trans s4).trans s5, a2, upd_same, D7, ?_⟩
        refine ⟨S7.gx, fun c u q => ?_, S7.px, fun c n => ?_, fun c u q => ?_, S7.ff, S7.len, fun j β q => (S7.sl j β q).move (Same.refl _) fun p o o1 o2 o3 o4 => ⟨o3, ?_⟩, S7.nd⟩
        · rw [upd_ne (ne_of_none q hyD)]
          exact S7.hx c u q
        · by_cases hc : c = D
          · rw [hc, upd_same]
            exact fun z => nomatch z
          · rw [upd_ne hc]
            exact S7.h1 c n
        · rw [upd_ne (ne_of_none q a2)]
          exact S7.gh c u q
        · rw [upd_ne (neD j β p q o1 o2)]
          exact o4
      | false =>
        obtain ⟨e5, hI5⟩ := h4
        obtain ⟨a1, a2⟩ := at5 S5
        exact ⟨acc, accV, G4, hI5, Nat.le_succ_of_le hl, (s'.trans e3.g).trans s4, a2, a1, DaL.up (e3.g.trans s4) _ dD, fin S5 s4 (w4 vs hj) e5⟩
    · have e : i = n := by omega
      subst e
      exact .inl ⟨(jj i G' H' s' S'.gh).2 (Nat.le_refl _), k D accV acc Γ1 G' H' (he acc hI) (s1.trans s') S' ⟨gD, h0_fresh S1 nD, hyD, hD, dD, own_fresh S1 nD⟩⟩
theorem et_yes {Ψ : Bool → Env → Prop} (h : Ψ true Γ) : EvT B tYes Γ Ψ := fun gy hy w G H σ S Q k => k true Γ G H h (Same.refl G) S
end
end Cp
/-! Cp5: promises, calls. -/
namespace Cp
open PySem PySem.Spec PyProof.Rows L2

/-! ### promises -/
/-- a def of data: R tells what it asks of the arguments and what it gives -/
def Pu (K : PySem.W.Frag) (n : Nat) (R : List Dt → (Dt → Prop) → Prop) : Sp := fun vs H Q _ => ∃ G ds Ψ, Same G H ∧ DaL K G vs ds ∧ ds.length = n ∧ R ds Ψ ∧ ∀ d, Ψ d → ∀ v G' H', Ext G H G' H' → Da K G' v d → Q v H'
/-- .. that hands back a new list -/
def PuN (K : PySem.W.Frag) (n : Nat) (R : List Dt → (List Dt → Prop) → Prop) : Sp := fun vs H Q _ => ∃ G ds Ψ, Same G H ∧ DaL K G vs ds ∧ ds.length = n ∧ R ds Ψ ∧
  ∀ es, Ψ es → ∀ p xs G' H', Ext G H G' H' → H p = none → G' p = none → H' p = some (.lst xs) → DaL K G' xs es → Q (.ref p) H'
/-- .. that may raise an exception of the class at C, given a value -/
def PuX (K : PySem.W.Frag) (n : Nat) (R : List Dt → (Dt → Prop) → (Addr → Dt → Prop) → Prop) : Sp := fun vs H Q E => ∃ G ds Ψ Ξ, Same G H ∧ DaL K G vs ds ∧ ds.length = n ∧ R ds Ψ Ξ ∧ (∀ d, Ψ d → ∀ v G' H', Ext G H G' H' → Da K G' v d → Q v H') ∧
  ∀ C d, Ξ C d → ∀ dd v G' H', Ext G H G' H' → H' dd = some (.xd [(gvn, v)]) → Da K G' v d → E (.ref C) (some dd) H'
def PuXN (K : PySem.W.Frag) (n : Nat) (R : List Dt → (List Dt → Prop) → (Addr → Dt → Prop) → Prop) : Sp := fun vs H Q E => ∃ G ds Ψ Ξ, Same G H ∧ DaL K G vs ds ∧ ds.length = n ∧ R ds Ψ Ξ ∧
  (∀ es, Ψ es → ∀ p xs G' H', Ext G H G' H' → H p = none → G' p = none → H' p = some (.lst xs) → DaL K G' xs es → Q (.ref p) H') ∧
  ∀ C d, Ξ C d → ∀ dd v G' H', Ext G H G' H' → H' dd = some (.xd [(gvn, v)]) → Da K G' v d → E (.ref C) (some dd) H'
/-- all but the thing at a is as it was -/
structure ExtB (a : Addr) (G H G' H' : Hp) : Prop where
  g : Same G G'
  h : ∀ c o, c ≠ a → H c = some o → H' c = some o
  s : Same G' H'
  f : ∀ c o, G' c = some o → G c = some o ∨ H c = none
/-- a def that draws from a box at most k times -/
def PuB (K : PySem.W.Frag) (n : Nat) (k : List Dt → Nat) (R : List Dt → (Dt → Prop) → Prop) : Sp := fun vs H Q _ => ∃ a ws G ds m Ψ, vs = .ref a :: ws ∧ Same G H ∧ G a = none ∧ BoxSt (m + k ds) H a ∧ DaL K G ws ds ∧ ds.length = n ∧ R ds Ψ ∧
  ∀ d, Ψ d → ∀ v G' H', ExtB a G H G' H' → BoxSt m H' a → Da K G' v d → Q v H'

/-- the rest of a beginning -/
structure Rs where
  G0 : Hp
  H0 : Hp
  Gx : Hp
  Hx : Gh
abbrev Rs.at (r : Rs) (K : PySem.W.Frag) (W : WX) (Xi : Addr → Dt → Env → Prop) : Cs := ⟨⟨K, r.G0, r.H0, r.Gx, r.Hx⟩, W, Xi⟩
abbrev noW : WX := fun _ _ _ _ => False
abbrev noX : Addr → Dt → Env → Prop := fun _ _ _ => False
def ghAll (H : Hp) : Gh := ⟨H, fun _ => False, fun _ q => q.elim⟩
def ghBut (H : Hp) (a : Addr) : Gh := ⟨fun c => if c = a then none else H c, fun _ => False, fun _ q => q.elim⟩

theorem start_get {N : List Str} {vs : List V} (h : vs.length ≤ N.length) (i : Nat) : (L2.start N vs)[i]? = if i < vs.length then (vs[i]?).map some else if i < N.length then some none else none := by
  unfold L2.start
  by_cases h1 : i < vs.length
  · rw [if_pos h1, List.getElem?_append_left (by rw [List.length_map]; exact h1), List.getElem?_map]
  · rw [if_neg h1, List.getElem?_append_right (by rw [List.length_map]; omega), List.length_map, List.getElem?_replicate]
    by_cases h2 : i < N.length
    · rw [if_pos (by omega), if_pos h2]
    · rw [if_neg (by omega), if_neg h2]
/-- the environment at a def's entry -/
def env0 (ds : List Dt) (m : Nat) : Env := ds.map Arg.d ++ List.replicate m .any
theorem env0_len (ds : List Dt) (m : Nat) : (env0 ds m).length = ds.length + m := by
  unfold env0
  rw [List.length_append, List.length_map, List.length_replicate]
theorem env0_own {ds : List Dt} {m i : Nat} {α : Arg} (h : (env0 ds m)[i]? = some α) : α.own = false := by
  unfold env0 at h
  have hm := List.mem_of_getElem? h
  rcases List.mem_append.mp hm with q | q
  · obtain ⟨d, _, e⟩ := List.mem_map.mp q
    rw [← e]
    rfl
  · rw [(List.mem_replicate.mp q).2]
    rfl
theorem sl_start {K : PySem.W.Frag} {G H : Hp} {vs : List V} {ds : List Dt} {N : List Str} (s : Same G H) (D : DaL K G vs ds) (hn : ds.length ≤ N.length) (hx : Gh) (h1 : Same hx.h H) (h2 : ∀ c, ¬ hx.p c) : Sl ⟨K, G, H, G, hx⟩ G H (L2.start N vs) (env0 ds (N.length - ds.length)) := by
  have hl := DaL.len D
  refine ⟨Same.refl G, h1, fun c q => (h2 c q).elim, fun c q => q, s, fun c o q => .inl q, ?_, fun i α q => ?_, fun i j α β p q1 q2 => by rw [env0_own q1] at q2; cases q2⟩
  · rw [env0_len]
    unfold L2.start
    rw [List.length_append, List.length_map, List.length_replicate, hl]
  · unfold env0 at q
    by_cases hi : i < ds.length
    · rw [List.getElem?_append_left (by rw [List.length_map]; exact hi), List.getElem?_map] at q
      rw [start_get (by rw [hl]; exact hn), if_pos (by rw [hl]; exact hi)]
      cases z : ds[i]? with
      | none =>
        rw [z] at q
        cases q
      | some d =>
        rw [z] at q
        cases q
        obtain ⟨v, q1, q2⟩ := DaL.get D z
        exact ⟨v, by rw [q1]; rfl, q2⟩
    · rw [List.getElem?_append_right (by rw [List.length_map]; omega), List.getElem?_replicate] at q
      split at q
      · cases q
        trivial
      · cases q
theorem pu_start {K : PySem.W.Frag} {n : Nat} {R : List Dt → (Dt → Prop) → Prop} {N : List Str} {t : TS} {vs : List V} {H : Hp} {Q : VK} {E : XK} (h : Pu K n R vs H Q E) (hn : n ≤ N.length)
    (body : ∀ (r : Rs) (ds : List Dt) (Ψ : Dt → Prop), ds.length = n → R ds Ψ → Sv (r.at K noW noX) t (env0 ds (N.length - n)) { nx := fun _ => Ψ .non, rt := fun d _ => Ψ d }) :
    t { nx := fun _ H' => Q .non H', rt := Q } (L2.start N vs) H := by
  obtain ⟨G, ds, Ψ, s, D, hl, hR, q⟩ := h
  have S := sl_start (N := N) s D (by rw [hl]; exact hn) (ghAll H) (Same.refl H) fun _ z => z
  rw [hl] at S
  have w : Wy (Rs.at ⟨G, H, G, ghAll H⟩ K noW noX) G (ghAll H) := ⟨fun _ _ _ _ _ _ _ _ z => z.elim, Same.refl _, Same.refl _, fun _ z => z⟩
  have fin : ∀ {G' H' : Hp} {σ' : L2.St} {Γ' : Env}, Sl (Cs.b (Rs.at ⟨G, H, G, ghAll H⟩ K noW noX) G (ghAll H)) G' H' σ' Γ' → Ext G H G' H' := fun {G' H' σ' Γ'} S' => ⟨S'.gx, S'.hx, S'.gh, S'.ff⟩
  refine body ⟨G, H, G, ghAll H⟩ ds Ψ hl hR G (ghAll H) w G H (L2.start N vs) _ S (fun Γ' G' H' σ' hp _ S' => q _ hp _ G' H' (fin S') rfl) (fun d v Γ' G' H' σ' hp _ S' D' => q d hp v G' H' (fin S') D') (fun _ _ _ _ z => z.elim) (fun _ _ _ _ z => z.elim)
theorem px_start {K : PySem.W.Frag} {n : Nat} {R : List Dt → (Dt → Prop) → (Addr → Dt → Prop) → Prop} {N : List Str} {t : TS} {vs : List V} {H : Hp} {Q : VK} {E : XK} (h : PuX K n R vs H Q E) (hn : n ≤ N.length)
    (body : ∀ (r : Rs) (ds : List Dt) (Ψ : Dt → Prop) (Ξ : Addr → Dt → Prop), ds.length = n → R ds Ψ Ξ → Sv (r.at K (fun cls d _ H => E cls d H) (fun C d _ => Ξ C d)) t (env0 ds (N.length - n)) { nx := fun _ => Ψ .non, rt := fun d _ => Ψ d }) :
    t { nx := fun _ H' => Q .non H', rt := Q } (L2.start N vs) H := by
  obtain ⟨G, ds, Ψ, Ξ, s, D, hl, hR, q, qx⟩ := h
  have S := sl_start (N := N) s D (by rw [hl]; exact hn) (ghAll H) (Same.refl H) fun _ z => z
  rw [hl] at S
  have fin : ∀ {B : Cs} {G' H' : Hp} {σ' : L2.St} {Γ' : Env}, B.G0 = G → B.H0 = H → Sl (Cs.b B G (ghAll H)) G' H' σ' Γ' → Ext G H G' H' := fun {B G' H' σ' Γ'} e1 e2 S' => ⟨S'.gx, S'.hx, S'.gh, fun c o z => by rw [← e1, ← e2]; exact S'.ff c o z⟩
  have w : Wy (Rs.at ⟨G, H, G, ghAll H⟩ K (fun cls d _ H => E cls d H) (fun C d _ => Ξ C d)) G (ghAll H) :=
    ⟨fun C d dd v Γ' G' H' σ' hx S' e D' => qx C d hx dd v G' H' (fin (B := Rs.at ⟨G, H, G, ghAll H⟩ K (fun cls d _ H => E cls d H) (fun C d _ => Ξ C d)) rfl rfl S') e D', Same.refl _, Same.refl _, fun _ z => z⟩
  refine body ⟨G, H, G, ghAll H⟩ ds Ψ Ξ hl hR G (ghAll H) w G H (L2.start N vs) _ S (fun Γ' G' H' σ' hp _ S' => q _ hp _ G' H' (fin rfl rfl S') rfl) (fun d v Γ' G' H' σ' hp _ S' D' => q d hp v G' H' (fin rfl rfl S') D') (fun _ _ _ _ z => z.elim) (fun _ _ _ _ z => z.elim)
theorem pb_start {K : PySem.W.Frag} {n : Nat} {k : List Dt → Nat} {R : List Dt → (Dt → Prop) → Prop} {N : List Str} {t : TS} {vs : List V} {H : Hp} {Q : VK} {E : XK} (h : PuB K n k R vs H Q E) (hn : n + 1 ≤ N.length)
    (body : ∀ (r : Rs) (a : Addr) (ds : List Dt) (Ψ : Dt → Prop) (m : Nat), ds.length = n → R ds Ψ → Sv (r.at K noW noX) t (.box a (m + k ds) :: env0 ds (N.length - (n + 1))) { nx := fun Γ => (∃ m', m ≤ m' ∧ Γ[0]? = some (.box a m')) ∧ Ψ .non, rt := fun d Γ => (∃ m', m ≤ m' ∧ Γ[0]? = some (.box a m')) ∧ Ψ d }) :
    t { nx := fun _ H' => Q .non H', rt := Q } (L2.start N vs) H := by
  obtain ⟨a, ws, G, ds, m, Ψ, rfl, s, ga, hb, D, hl, hR, q⟩ := h
  obtain ⟨n0, N', rfl⟩ : ∃ n0 N', N = n0 :: N' := by
    cases N with
    | nil => exact absurd hn (by simp)
    | cons x r => exact ⟨x, r, rfl⟩
  have hn' : ds.length ≤ N'.length := by
    rw [List.length_cons] at hn
    omega
  have hxs : Same (ghBut H a).h H := fun c o z => by
    have z' : (if c = a then none else H c) = some o := z
    split at z'
    · cases z'
    · exact z'
  have S := sl_start (N := N') s D hn' (ghBut H a) hxs fun _ z => z
  have e0 : L2.start (n0 :: N') (.ref a :: ws) = some (.ref a) :: L2.start N' ws := by
    unfold L2.start
    rw [List.length_cons, List.length_cons, List.map_cons, Nat.add_sub_add_right]
    rfl
  have S0 : Sl ⟨K, G, H, G, ghBut H a⟩ G H (L2.start (n0 :: N') (.ref a :: ws)) (.box a (m + k ds) :: env0 ds (N'.length - ds.length)) := by
    rw [e0]
    refine ⟨S.gx, S.hx, S.px, S.h1, S.gh, S.ff, by rw [List.length_cons, List.length_cons, S.len], fun i α z => ?_, fun i j α β p h1 h2 h3 h4 h5 h6 => ?_⟩
    · cases i with
      | zero =>
        rw [List.getElem?_cons_zero] at z
        cases z
        exact ⟨rfl, ga, if_pos rfl, hb⟩
      | succ i =>
        rw [List.getElem?_cons_succ] at z ⊢
        exact S.sl i α z
    · cases i with
      | zero =>
        cases j with
        | zero => rfl
        | succ j =>
          rw [List.getElem?_cons_succ] at h4
          rw [env0_own h4] at h5
          cases h5
      | succ i =>
        rw [List.getElem?_cons_succ] at h1
        rw [env0_own h1] at h2
        cases h2
  have e1 : (n0 :: N').length - (n + 1) = N'.length - ds.length := by
    rw [List.length_cons, hl]
    omega
  have w : Wy (Rs.at ⟨G, H, G, ghBut H a⟩ K noW noX) G (ghBut H a) := ⟨fun _ _ _ _ _ _ _ _ z => z.elim, Same.refl _, Same.refl _, fun _ z => z⟩
  have fin : ∀ {G' H' : Hp} {σ' : L2.St} {Γ' : Env}, Sl (Cs.b (Rs.at ⟨G, H, G, ghBut H a⟩ K noW noX) G (ghBut H a)) G' H' σ' Γ' → ExtB a G H G' H' := fun {G' H' σ' Γ'} S' => ⟨S'.gx, fun c o ne z => S'.hx c o (by show (if c = a then none else H c) = some o; rw [if_neg ne]; exact z), S'.gh, S'.ff⟩
  have out : ∀ {G' H' : Hp} {σ' : L2.St} {Γ' : Env} {m' : Nat}, Sl (Cs.b (Rs.at ⟨G, H, G, ghBut H a⟩ K noW noX) G (ghBut H a)) G' H' σ' Γ' → m ≤ m' → Γ'[0]? = some (.box a m') → BoxSt m H' a := fun {G' H' σ' Γ' m'} S' le e => by
    have z := S'.sl 0 _ e
    exact z.2.2.2.le le
  have b := body ⟨G, H, G, ghBut H a⟩ a ds Ψ m hl hR
  rw [e1] at b
  exact b G (ghBut H a) w G H _ _ S0 (fun Γ' G' H' σ' ⟨⟨m', le, e⟩, hp⟩ _ S' => q _ hp _ G' H' (fin S') (out S' le e) rfl) (fun d v Γ' G' H' σ' ⟨⟨m', le, e⟩, hp⟩ _ S' D' => q d hp v G' H' (fin S') (out S' le e) D') (fun _ _ _ _ z => z.elim) (fun _ _ _ _ z => z.elim)

/-! ### calls -/
section
variable {B : Cs} {Γ : Env} {Φ : Dt → Env → Prop} {Θ : List Dt → Env → Prop} {ta : TA} {E : XK} {n : Nat}
theorem ev_call {R : List Dt → (Dt → Prop) → Prop} (h : EvA B ta Γ fun ds Γ' => ds.length = n ∧ R ds fun d => Φ d Γ') : Ev B (tCall (Pu B.K n R) [] E ta) Γ Φ := fun gy hy w G H σ S Q k =>
  h gy hy w G H σ S _ fun vs ds Γ1 G1 H1 ⟨hl, hR⟩ s1 S1 D1 => ⟨G1, ds, _, S1.gh, by rw [List.append_nil]; exact D1, hl, hR, fun d hp v G2 H2 e D2 => k v d Γ1 G2 H2 hp (s1.trans e.g) (S1.ext e) D2⟩
theorem en_call {R : List Dt → (List Dt → Prop) → Prop} (h : EvA B ta Γ fun ds Γ' => ds.length = n ∧ R ds fun es => Θ es Γ') : EvN B (tCall (PuN B.K n R) [] E ta) Γ Θ := fun gy hy w G H σ S Q k =>
  h gy hy w G H σ S _ fun vs ds Γ1 G1 H1 ⟨hl, hR⟩ s1 S1 D1 => ⟨G1, ds, _, S1.gh, by rw [List.append_nil]; exact D1, hl, hR, fun es hp p xs G2 H2 e n0 n1 n2 D2 => k p xs es Γ1 G2 H2 hp (s1.trans e.g) (S1.ext e) (newL S1 n0 n1 n2 D2)⟩
/-- a def that may raise, where it does not -/
theorem ev_callX0 {R : List Dt → (Dt → Prop) → (Addr → Dt → Prop) → Prop} (h : EvA B ta Γ fun ds Γ' => ds.length = n ∧ R ds (fun d => Φ d Γ') fun _ _ => False) : Ev B (tCall (PuX B.K n R) [] E ta) Γ Φ := fun gy hy w G H σ S Q k =>
  h gy hy w G H σ S _ fun vs ds Γ1 G1 H1 ⟨hl, hR⟩ s1 S1 D1 => ⟨G1, ds, _, _, S1.gh, by rw [List.append_nil]; exact D1, hl, hR, fun d hp v G2 H2 e D2 => k v d Γ1 G2 H2 hp (s1.trans e.g) (S1.ext e) D2, fun _ _ z => z.elim⟩
theorem ev_callX {R : List Dt → (Dt → Prop) → (Addr → Dt → Prop) → Prop} (h : EvA B ta Γ fun ds Γ' => ds.length = n ∧ ∃ Ξ, R ds (fun d => Φ d Γ') Ξ ∧ ∀ C d, Ξ C d → B.Xi C d Γ') : Ev B (tCallS (PuX B.K n R) (WE B.W) ta) Γ Φ := fun gy hy w G H σ S Q k =>
  h gy hy w G H σ S _ fun vs ds Γ1 G1 H1 ⟨hl, Ξ, hR, hX⟩ s1 S1 D1 => ⟨G1, ds, _, Ξ, S1.gh, D1, hl, hR, fun d hp v G2 H2 e D2 => k v d Γ1 G2 H2 hp (s1.trans e.g) (S1.ext e) D2,
    fun C d hx dd v G2 H2 e e2 D2 => w.wok C d dd v Γ1 G2 H2 σ (hX C d hx) (w.back (S1.ext e)) e2 D2⟩
theorem en_callX {R : List Dt → (List Dt → Prop) → (Addr → Dt → Prop) → Prop} (h : EvA B ta Γ fun ds Γ' => ds.length = n ∧ ∃ Ξ, R ds (fun d => Θ d Γ') Ξ ∧ ∀ C d, Ξ C d → B.Xi C d Γ') : EvN B (tCallS (PuXN B.K n R) (WE B.W) ta) Γ Θ := fun gy hy w G H σ S Q k =>
  h gy hy w G H σ S _ fun vs ds Γ1 G1 H1 ⟨hl, Ξ, hR, hX⟩ s1 S1 D1 => ⟨G1, ds, _, Ξ, S1.gh, D1, hl, hR, fun es hp p xs G2 H2 e n0 n1 n2 D2 => k p xs es Γ1 G2 H2 hp (s1.trans e.g) (S1.ext e) (newL S1 n0 n1 n2 D2),
    fun C d hx dd v G2 H2 e e2 D2 => w.wok C d dd v Γ1 G2 H2 σ (hX C d hx) (w.back (S1.ext e)) e2 D2⟩
/-- behind a call that drew from the box -/
theorem Sl.extB {b : Bs} {G H G' H' : Hp} {σ : L2.St} {i m n : Nat} {a : Addr} (S : Sl b G H σ Γ) (h : Γ[i]? = some (.box a n)) (e : ExtB a G H G' H') (hb : BoxSt m H' a) : Sl b G' H' σ (Γ.set i (.box a m)) := by
  obtain ⟨h1, h2, h3, h4⟩ := S.sl i _ h
  have hi : i < Γ.length := (List.getElem?_eq_some_iff.mp h).1
  obtain ⟨_, _, _, _, ha, _⟩ := id hb
  have non : ∀ c o, G c = none → H c = some o → G' c = none := fun c o n q => by
    cases z : G' c with
    | none => rfl
    | some u =>
      rcases e.f c u z with y | y
      · rw [n] at y
        cases y
      · rw [q] at y
        cases y
  obtain ⟨_, _, _, _, ha0, _⟩ := id h4
  refine ⟨S.gx.trans e.g, fun c o q => e.h c o (ne_of_none q h3) (S.hx c o q), fun c q => ?_, fun c q => ?_, e.s, fun c o q => ?_, by rw [List.length_set]; exact S.len, fun j β q => ?_, fun j k β γ q h1 h2 h3 h4 h5 h6 => ?_⟩
  · cases z : H c with
    | none => exact absurd (S.hx.free z) (b.Hx.q c q)
    | some o => exact non c o (S.px c q) z
  · by_cases hc : c = a
    · rw [hc, ha]
      exact fun z => nomatch z
    · cases z : H c with
      | none => exact absurd z (S.h1 c q)
      | some o =>
        rw [e.h c o hc z]
        exact fun z => nomatch z
  · rcases e.f c o q with y | y
    · exact S.ff c o y
    · refine .inr ?_
      cases z : b.H0 c with
      | none => rfl
      | some u => exact absurd y (S.h1 c (by rw [z]; exact fun q => nomatch q))
  · by_cases hj : i = j
    · subst hj
      rw [List.getElem?_set_self hi] at q
      cases q
      exact ⟨h1, non a _ h2 ha0, h3, hb⟩
    · rw [List.getElem?_set_ne hj] at q
      exact (S.sl j β q).move e.g fun p o o1 o2 o3 o4 => ⟨non p o o3 o4, e.h p o (fun z => hj (S.nd i j _ β a h rfl h1 q o1 (by rw [o2, z]))) o4⟩
  · have own' : ∀ {m' : Nat} {ε : Arg}, (Γ.set i (.box a m))[m']? = some ε → ε.own = true → ∃ ε', Γ[m']? = some ε' ∧ ε'.own = true := fun {m' ε} e1 e2 => by
      by_cases hm : i = m'
      · subst hm
        exact ⟨_, h, rfl⟩
      · rw [List.getElem?_set_ne hm] at e1
        exact ⟨ε, e1, e2⟩
    obtain ⟨β', b1, b2⟩ := own' h1 h2
    obtain ⟨γ', c1, c2⟩ := own' h4 h5
    exact S.nd j k β' γ' q b1 b2 h3 c1 c2 h6
/-- f(box, ..) -/
theorem ev_callB {i : Nat} {a : Addr} {n0 : Nat} {k : List Dt → Nat} {R : List Dt → (Dt → Prop) → Prop} (h0 : Γ[i]? = some (.box a n0)) (h : EvA B ta Γ fun ds Γ' => ds.length = n ∧ ∃ m, Γ'[i]? = some (.box a (m + k ds)) ∧ R ds fun d => Φ d (Γ'.set i (.box a m))) :
    Ev B (tCall (PuB B.K n k R) [] E (tCons (tVar i) ta)) Γ Φ := fun gy hy w G H σ S Q q => by
  obtain ⟨e0, _⟩ := S.sl i _ h0
  refine ⟨.ref a, e0, h gy hy w G H σ S _ fun vs ds Γ1 G1 H1 ⟨hl, m, hi, hR⟩ s1 S1 D1 => ?_⟩
  obtain ⟨_, g1, _, b1⟩ := S1.sl i _ hi
  exact ⟨a, vs, G1, ds, m, _, by rw [List.append_nil], S1.gh, g1, b1, D1, hl, hR, fun d hp v G2 H2 e hb D2 => q v d _ G2 H2 hp (s1.trans e.g) (S1.extB hi e hb) D2⟩
end
end Cp
/-! Cp6: operators and built-ins on data; slices; dicts. -/
namespace Cp
open PySem PySem.Spec PyProof.Rows L2

section
variable {K : PySem.W.Frag}
/-! ### numbers -/
theorem opd_I {C : Int → Int → Prop} {g : Int → Int → Int} {i j : Int} (h : C i j) : OpD K (rI C fun i j => .int (g i j)) (.int i) (.int j) (.int (g i j)) := fun G H x y s hx hy Q k => ⟨i, j, hx, hy, h, k _ G H (Ext.rfl' s) rfl⟩
theorem opd_I0 {g : Int → Int → Int} {i j : Int} : OpD K (rI0 fun i j => .int (g i j)) (.int i) (.int j) (.int (g i j)) := fun G H x y s hx hy Q k => ⟨i, j, hx, hy, k _ G H (Ext.rfl' s) rfl⟩
theorem opd_B0 {g : Int → Int → Bool} {i j : Int} : OpD K (rI0 fun i j => .bl (g i j)) (.int i) (.int j) (.bl (g i j)) := fun G H x y s hx hy Q k => ⟨i, j, hx, hy, k _ G H (Ext.rfl' s) rfl⟩
theorem und_U {g : Int → Int} {i : Int} : UnD K (rU fun i => .int (g i)) (.int i) (.int (g i)) := fun G H x s hx Q k => ⟨i, hx, k _ G H (Ext.rfl' s) rfl⟩
/-! ### ==, != of flat things -/
def Dt.v : Dt → V
  | .bl b => .bl b
  | .int i => .int i
  | .str s => .str s
  | _ => .non
theorem Da.v_eq {G : Hp} {x : V} : ∀ {d : Dt}, d.flat = true → Da K G x d → x = d.v
  | .non, _, h => h
  | .bl _, _, h => h
  | .int _, _, h => h
  | .str _, _, h => h
theorem Da.of_v {G : Hp} : ∀ {d : Dt}, d.flat = true → Da K G d.v d
  | .non, _ => rfl
  | .bl _, _ => rfl
  | .int _, _ => rfl
  | .str _, _ => rfl
theorem opd_eq {d e : Dt} {c : Bool} (hd : d.flat = true) (he : e.flat = true) (hs : scal d.v e.v = true) (hc : decide (d.v = e.v) = c) : OpD K rEq d e (.bl c) := fun G H x y s hx hy Q k => by
  rw [hx.v_eq hd, hy.v_eq he]
  exact ⟨hs, by rw [hc]; exact k _ G H (Ext.rfl' s) rfl⟩
theorem opd_ne {d e : Dt} {c : Bool} (hd : d.flat = true) (he : e.flat = true) (hs : scal d.v e.v = true) (hc : decide (d.v = e.v) = c) : OpD K rNe d e (.bl (!c)) := fun G H x y s hx hy Q k => by
  rw [hx.v_eq hd, hy.v_eq he]
  exact ⟨hs, by rw [hc]; exact k _ G H (Ext.rfl' s) rfl⟩
theorem dec_i {i j : Int} : decide (V.int i = V.int j) = decide (i = j) := by
  by_cases h : i = j
  · rw [h, decide_eq_true rfl, decide_eq_true rfl]
  · rw [decide_eq_false h, decide_eq_false fun z => h (V.int.inj z)]
theorem dec_b {i j : Bool} : decide (V.bl i = V.bl j) = decide (i = j) := by
  by_cases h : i = j
  · rw [h, decide_eq_true rfl, decide_eq_true rfl]
  · rw [decide_eq_false h, decide_eq_false fun z => h (V.bl.inj z)]
theorem dec_s {i j : Str} : decide (V.str i = V.str j) = decide (i = j) := by
  by_cases h : i = j
  · rw [h, decide_eq_true rfl, decide_eq_true rfl]
  · rw [decide_eq_false h, decide_eq_false fun z => h (V.str.inj z)]
theorem opd_eqI {i j : Int} : OpD K rEq (.int i) (.int j) (.bl (decide (i = j))) := opd_eq rfl rfl rfl dec_i
theorem opd_eqB {i j : Bool} : OpD K rEq (.bl i) (.bl j) (.bl (decide (i = j))) := opd_eq rfl rfl rfl dec_b
theorem opd_eqS {i j : Str} : OpD K rEq (.str i) (.str j) (.bl (decide (i = j))) := opd_eq rfl rfl rfl dec_s
theorem opd_neI {i j : Int} : OpD K rNe (.int i) (.int j) (.bl (!decide (i = j))) := opd_ne rfl rfl rfl dec_i
theorem opd_neB {i j : Bool} : OpD K rNe (.bl i) (.bl j) (.bl (!decide (i = j))) := opd_ne rfl rfl rfl dec_b
theorem opd_neS {i j : Str} : OpD K rNe (.str i) (.str j) (.bl (!decide (i = j))) := opd_ne rfl rfl rfl dec_s
/-- ints and None -/
def oi : Option Int → Dt
  | none => .non
  | some i => .int i
theorem opd_neO {i j : Option Int} : OpD K rNe (oi i) (oi j) (.bl (!decide (i = j))) := by
  cases i with
  | none =>
    cases j with
    | none => exact opd_ne rfl rfl rfl rfl
    | some j => exact opd_ne rfl rfl rfl rfl
  | some i =>
    cases j with
    | none => exact opd_ne rfl rfl rfl rfl
    | some j =>
      have e : decide (some i = some j) = decide (i = j) := by
        by_cases h : i = j
        · rw [h, decide_eq_true rfl, decide_eq_true rfl]
        · rw [decide_eq_false h, decide_eq_false fun z => h (Option.some.inj z)]
      rw [e]
      exact opd_neI
/-! ### is None, is of bools -/
def Dt.isN : Dt → Bool
  | .non => true
  | _ => false
theorem Da.isN {G : Hp} {x : V} : ∀ {d : Dt}, Da K G x d → decide (x = .non) = d.isN
  | .non, h => by rw [show x = V.non from h]; rfl
  | .bl _, h => by rw [show x = V.bl _ from h]; rfl
  | .int _, h => by rw [show x = V.int _ from h]; rfl
  | .str _, h => by rw [show x = V.str _ from h]; rfl
  | .lst _, ⟨_, _, h, _⟩ => by rw [h]; rfl
  | .tup _, ⟨_, _, h, _⟩ => by rw [h]; rfl
  | .sq _, ⟨_, _, h, _⟩ => by rw [h]; rfl
  | .sqt _, ⟨_, _, h, _⟩ => by rw [h]; rfl
  | .dk _, ⟨_, _, h, _⟩ => by rw [h]; rfl
  | .dt _, ⟨_, _, h, _⟩ => by rw [h]; rfl
theorem opd_isN {d : Dt} : OpD K (fun x y H Q => y = .non ∧ Q (.bl (decide (x = .non))) H) d .non (.bl d.isN) := fun G H x y s hx hy Q k => ⟨hy, by rw [hx.isN]; exact k _ G H (Ext.rfl' s) rfl⟩
theorem opd_notN {d : Dt} : OpD K (fun x y H Q => y = .non ∧ Q (.bl (!decide (x = .non))) H) d .non (.bl (!d.isN)) := fun G H x y s hx hy Q k => ⟨hy, by rw [hx.isN]; exact k _ G H (Ext.rfl' s) rfl⟩
theorem opd_isB {a b : Bool} : OpD K rIsB (.bl a) (.bl b) (.bl (decide (a = b))) := fun G H x y s hx hy Q k => ⟨a, b, hx, hy, k _ G H (Ext.rfl' s) rfl⟩
theorem opd_notB {a b : Bool} : OpD K rNotB (.bl a) (.bl b) (.bl (!decide (a = b))) := fun G H x y s hx hy Q k => ⟨a, b, hx, hy, k _ G H (Ext.rfl' s) rfl⟩
/-! ### lists and tuples -/
inductive SeqD : Dt → List Dt → Prop
  | lst (l : List Dt) : SeqD (.lst l) l
  | tup (l : List Dt) : SeqD (.tup l) l
  | sq (l : List Dt) : SeqD (.sq l) l
  | sqt (l : List Dt) : SeqD (.sqt l) l
theorem SeqD.at {d : Dt} {l : List Dt} (q : SeqD d l) {G H : Hp} {x : V} (s : Same G H) (h : Da K G x d) : ∃ a xs, x = .ref a ∧ (SqL K H a xs ∨ SqT K H a xs) ∧ DaL K G xs l := by
  cases q with
  | lst =>
    obtain ⟨a, xs, e, h1, h2⟩ := h
    exact ⟨a, xs, e, .inl (.inl (.inl (s _ _ h1))), h2⟩
  | tup =>
    obtain ⟨a, xs, e, h1, h2⟩ := h
    exact ⟨a, xs, e, .inr (.inl (.inl (s _ _ h1))), h2⟩
  | sq =>
    obtain ⟨a, xs, e, h1, h2⟩ := h
    exact ⟨a, xs, e, .inl (Same.seq s h1), h2⟩
  | sqt =>
    obtain ⟨a, xs, e, h1, h2⟩ := h
    exact ⟨a, xs, e, .inr (Same.tup s h1), h2⟩
theorem atI_da {G : Hp} {l : List Dt} {xs : List V} {n : Int} {d : Dt} (D : DaL K G xs l) (h : atI l n = some d) : ∃ v, atI xs n = some v ∧ Da K G v d := by
  unfold atI at h ⊢
  rw [DaL.len D]
  cases hx : ixN l.length n with
  | none =>
    rw [hx] at h
    cases h
  | some j =>
    rw [hx] at h
    exact DaL.get D h
theorem opd_ix {d e : Dt} {l : List Dt} {n : Int} (q : SeqD d l) (h : atI l n = some e) : OpD K (rIx K) d (.int n) e := fun G H x y s hx hy Q k => by
  obtain ⟨a, xs, e1, h1, h2⟩ := q.at s hx
  obtain ⟨v, q1, q2⟩ := atI_da h2 h
  have e2 : y = .int n := hy
  rcases h1 with h1 | h1
  · exact .inl ⟨a, xs, n, v, e1, e2, h1, q1, k v G H (Ext.rfl' s) q2⟩
  · exact .inr (.inl ⟨a, xs, n, v, e1, e2, h1, q1, k v G H (Ext.rfl' s) q2⟩)
theorem cbd_len {d : Dt} {l : List Dt} (q : SeqD d l) : CbD K (fun xs H Q => ∃ x n, xs = [x] ∧ LenV K x H n ∧ Q (.int n) H) [d] (.int (l.length : Int)) := fun G H xs s ⟨x, r, e, hx, hr⟩ Q k => by
  obtain ⟨a, ys, e1, h1, h2⟩ := q.at s hx
  have e2 : r = [] := hr
  subst e2
  refine ⟨x, ys.length, e, ?_, by rw [DaL.len h2]; exact k _ G H (Ext.rfl' s) rfl⟩
  rw [e1]
  exact h1.imp (fun z => ⟨ys, z, rfl⟩) fun z => ⟨ys, z, rfl⟩
theorem cbd_lenS {z : Str} (hz : z.length ≤ 100000) : CbD K (fun xs H Q => ∃ x n, xs = [x] ∧ LenV K x H n ∧ Q (.int n) H) [.str z] (.int (z.length : Int)) := fun G H xs s ⟨x, r, e, hx, hr⟩ Q k => by
  have e2 : r = [] := hr
  have e3 : x = .str z := hx
  subst e2 e3
  exact ⟨_, z.length, e, ⟨sz_small hz, rfl⟩, k _ G H (Ext.rfl' s) rfl⟩
theorem all_flat : ∀ {l : List Dt} {G : Hp} {xs : List V}, l.all Dt.flat = true → DaL K G xs l → xs = l.map Dt.v
  | [], _, _, _, h => h
  | d :: l, _, _, hf, ⟨v, vs, e, h1, h2⟩ => by
    rw [List.all_cons, Bool.and_eq_true] at hf
    rw [e, h1.v_eq hf.1, all_flat hf.2 h2]
    rfl
theorem flat_v : ∀ {d : Dt}, d.flat = true → flatV d.v = true
  | .non, _ => rfl
  | .bl _, _ => rfl
  | .int _, _ => rfl
  | .str _, _ => rfl
theorem opd_in {d e : Dt} {l : List Dt} (q : SeqD e l) (hd : d.flat = true) (hl : l.all Dt.flat = true) {neg : Bool} : OpD K (rIn K neg) d e (.bl (if neg then !inV d.v (l.map Dt.v) else inV d.v (l.map Dt.v))) := fun G H x y s hx hy Q k => by
  obtain ⟨a, xs, e1, h1, h2⟩ := q.at s hy
  refine ⟨a, xs, e1, h1, ?_, ?_, ?_⟩
  · rw [hx.v_eq hd]
    exact flat_v hd
  · rw [all_flat hl h2, List.all_map]
    exact List.all_eq_true.mpr fun z hz => flat_v (List.all_eq_true.mp hl z hz)
  · rw [hx.v_eq hd, all_flat hl h2]
    exact k _ G H (Ext.rfl' s) rfl
theorem inV_int (i : Int) : ∀ ns : List Int, inV (.int i) ((ns.map Dt.int).map Dt.v) = decide (i ∈ ns)
  | [] => rfl
  | n :: ns => by
    show (decide (n = i) || inV (.int i) ((ns.map Dt.int).map Dt.v)) = decide (i ∈ n :: ns)
    rw [inV_int i ns]
    by_cases h : i = n
    · subst h
      rw [decide_eq_true rfl, decide_eq_true (List.mem_cons_self)]
      rfl
    · rw [decide_eq_false fun z => h z.symm, Bool.false_or]
      by_cases hm : i ∈ ns
      · rw [decide_eq_true hm, decide_eq_true (List.mem_cons_of_mem _ hm)]
      · rw [decide_eq_false hm, decide_eq_false fun z => (List.mem_cons.mp z).elim h hm]
theorem flat_ints : ∀ ns : List Int, (ns.map Dt.int).all Dt.flat = true
  | [] => rfl
  | _ :: ns => by rw [List.map_cons, List.all_cons, flat_ints ns]; rfl
theorem opd_inI {i : Int} {e : Dt} {ns : List Int} (q : SeqD e (ns.map .int)) : OpD K (rIn K false) (.int i) e (.bl (decide (i ∈ ns))) := by
  have z := opd_in (K := K) (d := .int i) (neg := false) q rfl (flat_ints ns)
  rw [if_neg Bool.false_ne_true] at z
  rw [← inV_int]
  exact z
theorem opd_ninI {i : Int} {e : Dt} {ns : List Int} (q : SeqD e (ns.map .int)) : OpD K (rIn K true) (.int i) e (.bl (!decide (i ∈ ns))) := by
  have z := opd_in (K := K) (d := .int i) (neg := true) q rfl (flat_ints ns)
  rw [if_pos rfl] at z
  rw [← inV_int]
  exact z
/-! ### new lists -/
theorem cbn_list {d : Dt} {l : List Dt} (q : SeqD d l) : CbN K (fun xs H Q => ∃ p ys, xs = [.ref p] ∧ (SqL K H p ys ∨ SqT K H p ys) ∧ ∀ l, H l = none → Q (.ref l) (upd H l (.lst ys))) [d] l := fun G H xs s ⟨x, r, e, hx, hr⟩ Q k => by
  obtain ⟨a, ys, e1, h1, h2⟩ := q.at s hx
  have e2 : r = [] := hr
  subst e2 e1
  exact ⟨a, ys, e, h1, fun p np => k p ys G _ (Ext.newH s np) np (s.free np) upd_same h2⟩
theorem cbd_tupL {d : Dt} {l : List Dt} (q : d = .lst l ∨ d = .sq l) : CbD K (fun xs H Q => ∃ p ys, xs = [.ref p] ∧ ((SqL K H p ys ∧ ∀ l, H l = none → Q (.ref l) (upd H l (.tup ys))) ∨ (SqT K H p ys ∧ Q (.ref p) H))) [d] (.tup l) := fun G H xs s ⟨x, r, e, hx, hr⟩ Q k => by
  have e2 : r = [] := hr
  obtain ⟨a, ys, e1, h1, h2⟩ : ∃ a ys, x = .ref a ∧ SqL K G a ys ∧ DaL K G ys l := by
    rcases q with q | q
    · subst q
      obtain ⟨a, ys, e1, h1, h2⟩ := hx
      exact ⟨a, ys, e1, .inl (.inl h1), h2⟩
    · subst q
      exact hx
  subst e2 e1
  refine ⟨a, ys, e, .inl ⟨Same.seq s h1, fun p np => ?_⟩⟩
  have z := Ext.new (o := .tup ys) s np
  exact k _ _ _ z ⟨p, ys, rfl, upd_same, DaL.up z.g _ h2⟩
theorem cbd_tupT {l : List Dt} : CbD K (fun xs H Q => ∃ p ys, xs = [.ref p] ∧ ((SqL K H p ys ∧ ∀ l, H l = none → Q (.ref l) (upd H l (.tup ys))) ∨ (SqT K H p ys ∧ Q (.ref p) H))) [.tup l] (.tup l) := fun G H xs s ⟨x, r, e, hx, hr⟩ Q k => by
  have e2 : r = [] := hr
  obtain ⟨a, ys, e1, h1, h2⟩ := hx
  subst e2 e1
  exact ⟨a, ys, e, .inr ⟨.inl (.inl (s _ _ h1)), k _ G H (Ext.rfl' s) ⟨a, ys, rfl, h1, h2⟩⟩⟩
theorem opn_cat {l l' : List Dt} (hl : l.length + l'.length ≤ 100000) : OpN K rCat (.lst l) (.lst l') (l ++ l') := fun G H x y s ⟨a, xs, e1, h1, h2⟩ ⟨b, ys, e3, h3, h4⟩ Q k =>
  ⟨a, b, xs, ys, e1, e3, s _ _ h1, s _ _ h3, by rw [DaL.len h2, DaL.len h4]; exact sz_small hl, fun p np => k p _ G _ (Ext.newH s np) np (s.free np) upd_same (DaL.app h2 h4)⟩
theorem opn_rep {l : List Dt} {n : Nat} (hn : n ≤ 1000) (hl : l.length ≤ 1000) : OpN K rRep (.lst l) (.int (n : Int)) (List.replicate n l).flatten := fun G H x y s ⟨a, xs, e1, h1, h2⟩ hy Q k =>
  ⟨a, (n : Int), xs, e1, hy, s _ _ h1, by omega, by omega, by
    rw [DaL.len h2, Int.toNat_natCast]
    exact Nat.le_trans (Nat.mul_le_mul hl hn) (by decide), fun p np => by
    rw [Int.toNat_natCast]
    exact k p _ G _ (Ext.newH s np) np (s.free np) upd_same (DaL.rep h2 n)⟩
/-! ### built-ins of lists -/
theorem sqL_of {d : Dt} {l : List Dt} (q : d = .lst l ∨ d = .sq l) {G H : Hp} {x : V} (s : Same G H) (h : Da K G x d) : ∃ a xs, x = .ref a ∧ SqL K H a xs ∧ DaL K G xs l := by
  rcases q with q | q
  · subst q
    obtain ⟨a, ys, e1, h1, h2⟩ := h
    exact ⟨a, ys, e1, .inl (.inl (s _ _ h1)), h2⟩
  · subst q
    obtain ⟨a, ys, e1, h1, h2⟩ := h
    exact ⟨a, ys, e1, Same.seq s h1, h2⟩
theorem cbd_sum {d : Dt} {ns : List Int} (q : d = .lst (ns.map .int) ∨ d = .sq (ns.map .int)) : CbD K (rSum K) [d] (.int ns.sum) := fun G H xs s ⟨x, r, e, hx, hr⟩ Q k => by
  have e2 : r = [] := hr
  obtain ⟨a, ys, e1, h1, h2⟩ := sqL_of q s hx
  subst e2 e1
  exact ⟨a, ns, e, by rw [← DaL.ofInts h2]; exact h1, k _ G H (Ext.rfl' s) rfl⟩
theorem cbd_all {bs : List Bool} : CbD K (rAll K) [.lst (bs.map .bl)] (.bl (bs.all id)) := fun G H xs s ⟨x, r, e, hx, hr⟩ Q k => by
  have e2 : r = [] := hr
  obtain ⟨a, ys, e1, h1, h2⟩ := sqL_of (.inl rfl) s hx
  subst e2 e1
  exact ⟨a, bs, e, by rw [← DaL.ofBls h2]; exact h1, k _ G H (Ext.rfl' s) rfl⟩
theorem cbd_any {bs : List Bool} : CbD K (rAny K) [.lst (bs.map .bl)] (.bl (bs.any id)) := fun G H xs s ⟨x, r, e, hx, hr⟩ Q k => by
  have e2 : r = [] := hr
  obtain ⟨a, ys, e1, h1, h2⟩ := sqL_of (.inl rfl) s hx
  subst e2 e1
  exact ⟨a, bs, e, by rw [← DaL.ofBls h2]; exact h1, k _ G H (Ext.rfl' s) rfl⟩
theorem cbd_max {ns : List Int} {m : Int} (h1 : m ∈ ns) (h2 : ∀ y ∈ ns, y ≤ m) : CbD K (rMax K) [.lst (ns.map .int)] (.int m) := fun G H xs s ⟨x, r, e, hx, hr⟩ Q k => by
  have e2 : r = [] := hr
  obtain ⟨a, ys, e1, q1, q2⟩ := sqL_of (.inl rfl) s hx
  subst e2 e1
  refine ⟨a, ns, e, by rw [← DaL.ofInts q2]; exact q1, List.length_pos_of_mem h1, fun m' m1 m2 => ?_⟩
  have e3 : m' = m := Int.le_antisymm (h2 m' m1) (m2 m h1)
  rw [e3]
  exact k _ G H (Ext.rfl' s) rfl
theorem cbd_min {ns : List Int} {m : Int} (h1 : m ∈ ns) (h2 : ∀ y ∈ ns, m ≤ y) : CbD K (rMin K) [.lst (ns.map .int)] (.int m) := fun G H xs s ⟨x, r, e, hx, hr⟩ Q k => by
  have e2 : r = [] := hr
  obtain ⟨a, ys, e1, q1, q2⟩ := sqL_of (.inl rfl) s hx
  subst e2 e1
  refine ⟨a, ns, e, by rw [← DaL.ofInts q2]; exact q1, List.length_pos_of_mem h1, fun m' m1 m2 => ?_⟩
  have e3 : m' = m := Int.le_antisymm (m2 m h1) (h2 m' m1)
  rw [e3]
  exact k _ G H (Ext.rfl' s) rfl
theorem cbn_sorted {ns ms : List Int} (hl : ns.length < 64) (h1 : ms.Perm ns) (h2 : ms.Pairwise (· ≤ ·)) : CbN K (rSorted K) [.lst (ns.map .int)] (ms.map .int) := fun G H xs s ⟨x, r, e, hx, hr⟩ Q k => by
  have e2 : r = [] := hr
  obtain ⟨a, ys, e1, q1, q2⟩ := sqL_of (.inl rfl) s hx
  subst e2 e1
  refine ⟨a, ns, e, by rw [← DaL.ofInts q2]; exact q1, hl, fun ns' p p1 p2 np => ?_⟩
  have e3 : ns' = ms := List.Perm.eq_of_pairwise (fun x y _ _ h1 h2 => Int.le_antisymm h1 h2) p2 h2 (p1.trans h1.symm)
  rw [e3]
  exact k p _ G _ (Ext.newH s np) np (s.free np) upd_same (DaL.ints ms)
theorem cbd_abs {i : Int} : CbD K (fun xs H Q => ∃ i, xs = [.int i] ∧ Q (.int (if i < 0 then -i else i)) H) [.int i] (.int (if i < 0 then -i else i)) := fun G H xs s ⟨x, r, e, hx, hr⟩ Q k => by
  have e2 : r = [] := hr
  have e3 : x = .int i := hx
  subst e2 e3
  exact ⟨i, e, k _ G H (Ext.rfl' s) rfl⟩
theorem cbd_max2 {i j : Int} : CbD K (fun xs H Q => ∃ i j, xs = [.int i, .int j] ∧ Q (.int (if j > i then j else i)) H) [.int i, .int j] (.int (max i j)) := fun G H xs s ⟨x, r, e, hx, y, r', e', hy, hr⟩ Q k => by
  have e2 : r' = [] := hr
  have e3 : x = .int i := hx
  have e4 : y = .int j := hy
  subst e2 e3 e4 e'
  refine ⟨i, j, e, ?_⟩
  have z : (if j > i then j else i) = max i j := by
    split <;> omega
  rw [z]
  exact k _ G H (Ext.rfl' s) rfl
theorem cbd_min2 {i j : Int} : CbD K (fun xs H Q => ∃ i j, xs = [.int i, .int j] ∧ Q (.int (if j < i then j else i)) H) [.int i, .int j] (.int (min i j)) := fun G H xs s ⟨x, r, e, hx, y, r', e', hy, hr⟩ Q k => by
  have e2 : r' = [] := hr
  have e3 : x = .int i := hx
  have e4 : y = .int j := hy
  subst e2 e3 e4 e'
  refine ⟨i, j, e, ?_⟩
  have z : (if j < i then j else i) = min i j := by
    split <;> omega
  rw [z]
  exact k _ G H (Ext.rfl' s) rfl
theorem cbd_int {i : Int} : CbD K (fun xs H Q => (∃ i, xs = [.int i] ∧ Q (.int i) H) ∨ ∃ k, xs = [.bl k] ∧ Q (.int (if k then 1 else 0)) H) [.int i] (.int i) := fun G H xs s ⟨x, r, e, hx, hr⟩ Q k => by
  have e2 : r = [] := hr
  have e3 : x = .int i := hx
  subst e2 e3
  exact .inl ⟨i, e, k _ G H (Ext.rfl' s) rfl⟩
theorem cbd_intB {i : Bool} : CbD K (fun xs H Q => (∃ i, xs = [.int i] ∧ Q (.int i) H) ∨ ∃ k, xs = [.bl k] ∧ Q (.int (if k then 1 else 0)) H) [.bl i] (.int (if i then 1 else 0)) := fun G H xs s ⟨x, r, e, hx, hr⟩ Q k => by
  have e2 : r = [] := hr
  have e3 : x = .bl i := hx
  subst e2 e3
  exact .inr ⟨i, e, k _ G H (Ext.rfl' s) rfl⟩
/-! ### isinstance -/
def Dt.tn : Dt → String
  | .non => "NoneType"
  | .bl _ => "bool"
  | .int _ => "int"
  | .str _ => "str"
  | .lst _ => "list"
  | .sq _ => "list"
  | .tup _ => "tuple"
  | .sqt _ => "tuple"
  | .dk _ => "dict"
  | .dt _ => "dict"
theorem Da.ty {G H : Hp} {x : V} (s : Same G H) : ∀ {d : Dt}, Da K G x d → TyX K H x (.type d.tn)
  | .non, h => by rw [show x = V.non from h]; exact .base .non
  | .bl _, h => by rw [show x = V.bl _ from h]; exact .base (.bl _)
  | .int _, h => by rw [show x = V.int _ from h]; exact .base (.int _)
  | .str _, h => by rw [show x = V.str _ from h]; exact .base (.str _)
  | .lst _, ⟨a, xs, e, h, _⟩ => by rw [e]; exact .base (.lst (s _ _ h))
  | .tup _, ⟨a, xs, e, h, _⟩ => by rw [e]; exact .base (.tup (s _ _ h))
  | .sq _, ⟨a, xs, e, h, _⟩ => by
    rw [e]
    rcases Same.seq s h with (q | ⟨o, q⟩) | ⟨o, its, n, q, c, _⟩
    · exact .base (.lst q)
    · exact .base (.frz q)
    · exact .kList q c
  | .sqt _, ⟨a, xs, e, h, _⟩ => by
    rw [e]
    rcases Same.tup s h with (q | ⟨o, q⟩) | ⟨o, its, n, q, c, _⟩
    · exact .base (.tup q)
    · exact .fTuple q
    · exact .kTuple q c
  | .dk _, ⟨a, xs, e, h, _⟩ => by rw [e]; exact .base (.dK (s _ _ h))
  | .dt _, ⟨a, xs, e, h, _⟩ => by rw [e]; exact .base (.dT (s _ _ h))
def Dt.isA (c : String) (d : Dt) : Bool := (kitB d.tn c).getD false
def Dt.isInt : Dt → Bool
  | .int _ => true
  | .bl _ => true
  | _ => false
def Dt.isBool : Dt → Bool
  | .bl _ => true
  | _ => false
def Dt.isStr : Dt → Bool
  | .str _ => true
  | _ => false
def Dt.isLst : Dt → Bool
  | .lst _ => true
  | .sq _ => true
  | _ => false
def Dt.isTup : Dt → Bool
  | .tup _ => true
  | .sqt _ => true
  | _ => false
theorem kit_int : ∀ d : Dt, kitB d.tn "int" = some d.isInt
  | .non => show kitB "NoneType" "int" = some false by decide +kernel
  | .bl _ => show kitB "bool" "int" = some true by decide +kernel
  | .int _ => show kitB "int" "int" = some true by decide +kernel
  | .str _ => show kitB "str" "int" = some false by decide +kernel
  | .lst _ => show kitB "list" "int" = some false by decide +kernel
  | .tup _ => show kitB "tuple" "int" = some false by decide +kernel
  | .sq _ => show kitB "list" "int" = some false by decide +kernel
  | .sqt _ => show kitB "tuple" "int" = some false by decide +kernel
  | .dk _ => show kitB "dict" "int" = some false by decide +kernel
  | .dt _ => show kitB "dict" "int" = some false by decide +kernel
theorem kit_bool : ∀ d : Dt, kitB d.tn "bool" = some d.isBool
  | .non => show kitB "NoneType" "bool" = some false by decide +kernel
  | .bl _ => show kitB "bool" "bool" = some true by decide +kernel
  | .int _ => show kitB "int" "bool" = some false by decide +kernel
  | .str _ => show kitB "str" "bool" = some false by decide +kernel
  | .lst _ => show kitB "list" "bool" = some false by decide +kernel
  | .tup _ => show kitB "tuple" "bool" = some false by decide +kernel
  | .sq _ => show kitB "list" "bool" = some false by decide +kernel
  | .sqt _ => show kitB "tuple" "bool" = some false by decide +kernel
  | .dk _ => show kitB "dict" "bool" = some false by decide +kernel
  | .dt _ => show kitB "dict" "bool" = some false by decide +kernel
theorem kit_str : ∀ d : Dt, kitB d.tn "str" = some d.isStr
  | .non => show kitB "NoneType" "str" = some false by decide +kernel
  | .bl _ => show kitB "bool" "str" = some false by decide +kernel
  | .int _ => show kitB "int" "str" = some false by decide +kernel
  | .str _ => show kitB "str" "str" = some true by decide +kernel
  | .lst _ => show kitB "list" "str" = some false by decide +kernel
  | .tup _ => show kitB "tuple" "str" = some false by decide +kernel
  | .sq _ => show kitB "list" "str" = some false by decide +kernel
  | .sqt _ => show kitB "tuple" "str" = some false by decide +kernel
  | .dk _ => show kitB "dict" "str" = some false by decide +kernel
  | .dt _ => show kitB "dict" "str" = some false by decide +kernel
theorem kit_list : ∀ d : Dt, kitB d.tn "list" = some d.isLst
  | .non => show kitB "NoneType" "list" = some false by decide +kernel
  | .bl _ => show kitB "bool" "list" = some false by decide +kernel
  | .int _ => show kitB "int" "list" = some false by decide +kernel
  | .str _ => show kitB "str" "list" = some false by decide +kernel
  | .lst _ => show kitB "list" "list" = some true by decide +kernel
  | .tup _ => show kitB "tuple" "list" = some false by decide +kernel
  | .sq _ => show kitB "list" "list" = some true by decide +kernel
  | .sqt _ => show kitB "tuple" "list" = some false by decide +kernel
  | .dk _ => show kitB "dict" "list" = some false by decide +kernel
  | .dt _ => show kitB "dict" "list" = some false by decide +kernel
theorem kit_tuple : ∀ d : Dt, kitB d.tn "tuple" = some d.isTup
  | .non => show kitB "NoneType" "tuple" = some false by decide +kernel
  | .bl _ => show kitB "bool" "tuple" = some false by decide +kernel
  | .int _ => show kitB "int" "tuple" = some false by decide +kernel
  | .str _ => show kitB "str" "tuple" = some false by decide +kernel
  | .lst _ => show kitB "list" "tuple" = some false by decide +kernel
  | .tup _ => show kitB "tuple" "tuple" = some true by decide +kernel
  | .sq _ => show kitB "list" "tuple" = some false by decide +kernel
  | .sqt _ => show kitB "tuple" "tuple" = some true by decide +kernel
  | .dk _ => show kitB "dict" "tuple" = some false by decide +kernel
  | .dt _ => show kitB "dict" "tuple" = some false by decide +kernel
end
section
variable {B : Cs} {Γ : Env} {Φ : Dt → Env → Prop} {Θ : List Dt → Env → Prop} {ta tb te tl : TE} {t : TS} {A : AE}
/-- isinstance(e, C), the answer p of the data -/
theorem ev_isi {c : String} {p : Dt → Bool} (hp : ∀ d : Dt, kitB d.tn c = some (p d)) (h : Ev B te Γ fun d Γ' => Φ (.bl (p d)) Γ') : Ev B (tCB (rIsi B.K) (tCons te (tCons (tC (.ty c)) tNil))) Γ Φ := fun gy hy w G H σ S Q k =>
  h gy hy w G H σ S _ fun v d Γ1 G1 H1 h1 s1 S1 D1 => ⟨v, .ty c, .type d.tn, .type c, p d, rfl, .ty c, Da.ty S1.gh D1, kit_ty (hp d), k _ _ Γ1 G1 H1 h1 s1 S1 rfl⟩
/-- isinstance(e, (C, D)) -/
theorem ev_isi2 {c c' : String} {p p' : Dt → Bool} (hp : ∀ d : Dt, kitB d.tn c = some (p d)) (hp' : ∀ d : Dt, kitB d.tn c' = some (p' d)) (h : Ev B te Γ fun d Γ' => Φ (.bl (p d || p' d)) Γ') :
    Ev B (tCB (rIsiT B.K) (tCons te (tCons (tTup (tCons (tC (.ty c)) (tCons (tC (.ty c')) tNil))) tNil))) Γ Φ := fun gy hy w G H σ S Q k =>
  h gy hy w G H σ S _ fun v d Γ1 G1 H1 h1 s1 S1 D1 => ⟨by show 2 ≤ sizeLine; decide, fun q nq => by
    have e := Ext.new (o := .tup [.ty c, .ty c']) S1.gh nq
    refine ⟨v, q, [.ty c, .ty c'], .type d.tn, [.type c, .type c'], p d || p' d, rfl, upd_same, .cons (.ty c) (.cons (.ty c') .nil), Da.ty (S1.gh.trans e.h) D1, ?_, k _ _ Γ1 _ _ h1 (s1.trans e.g) (S1.ext e) rfl⟩
    refine kitAny_cons (kit_ty (hp d)) (fun e1 => kitAny_cons (kit_ty (hp' d)) (fun e2 => ?_) fun e2 => ?_) fun e1 => ?_
    · rw [e1, e2]
      exact kitAny_nil
    · rw [e2, Bool.or_true]
    · rw [e1, Bool.true_or]⟩
/-! ### slices -/
def EvO (B : Cs) (to : TO) (Γ : Env) (Φ : Option Int → Env → Prop) : Prop := ∀ gy hy, Wy B gy hy → ∀ (G H : Hp) (σ : L2.St), Sl (B.b gy hy) G H σ Γ → ∀ Q : Option Int → Hp → Prop,
  (∀ o Γ' G' H', Φ o Γ' → Same G G' → Sl (B.b gy hy) G' H' σ Γ' → Q o H') → to σ H Q
theorem eo_no {Φ : Option Int → Env → Prop} (h : Φ none Γ) : EvO B tNoPart Γ Φ := fun gy hy w G H σ S Q k => k none Γ G H h (Same.refl G) S
theorem eo_at {Φ : Option Int → Env → Prop} (h : Ev B te Γ fun d Γ' => ∃ i, d = .int i ∧ Φ (some i) Γ') : EvO B (tPart te) Γ Φ := fun gy hy w G H σ S Q k =>
  h gy hy w G H σ S _ fun v d Γ1 G1 H1 ⟨i, e, h1⟩ s1 S1 D1 => ⟨i, by subst e; exact D1, k (some i) Γ1 G1 H1 h1 s1 S1⟩
def cutD (l : List Dt) (lo hi : Option Int) : List Dt := (l.drop (HT.sIx l.length 0 lo)).take (HT.sIx l.length l.length hi - HT.sIx l.length 0 lo)
theorem en_sl {tl th : TO} (h : Ev B te Γ fun d Γ1 => EvO B tl Γ1 fun lo Γ2 => EvO B th Γ2 fun hi Γ3 => ∃ l, (d = .lst l ∨ d = .sq l) ∧ Θ (cutD l lo hi) Γ3) : EvN B (tSl (rSlL B.K) te tl th) Γ Θ := fun gy hy w G H σ S Q k =>
  h gy hy w G H σ S _ fun v d Γ1 G1 H1 h1 s1 S1 D1 => h1 gy hy w G1 H1 σ S1 _ fun lo Γ2 G2 H2 h2 s2 S2 => h2 gy hy w G2 H2 σ S2 _ fun hi Γ3 G3 H3 ⟨l, hl, h3⟩ s3 S3 => by
    obtain ⟨a, xs, e, q1, q2⟩ := sqL_of hl S3.gh (Da.up (s2.trans s3) _ D1)
    refine ⟨a, xs, e, q1, fun p np => k p _ _ Γ3 G3 _ h3 ((s1.trans s2).trans s3) (S3.ext (Ext.newH S3.gh np)) (newL S3 np (S3.gh.free np) upd_same ?_)⟩
    unfold cutD cutV
    rw [← DaL.len q2]
    exact DaL.take _ (DaL.drop _ q2)
/-! ### dicts -/
section
variable {κ : Type} [DecidableEq κ]
def lookD (l : List (κ × Dt)) (k : κ) : Option Dt := (l.find? fun q => decide (q.1 = k)).map (·.2)
def putD (l : List (κ × Dt)) (k : κ) (d : Dt) : List (κ × Dt) := if (l.any fun q => decide (q.1 = k)) = true then l.map (fun q => if q.1 = k then (q.1, d) else q) else l ++ [(k, d)]
theorem putD_len (l : List (κ × Dt)) (k : κ) (d : Dt) : (putD l k d).length ≤ l.length + 1 := by
  unfold putD
  split
  · rw [List.length_map]
    omega
  · rw [List.length_append]
    exact Nat.le_refl _
end
theorem DaK.look {K : PySem.W.Frag} {G : Hp} {k : Key} : ∀ {l : List (Key × Dt)} {xs : List (Key × V)} {d : Dt}, DaK K G xs l → lookD l k = some d → ∃ v, valV xs k = some v ∧ Da K G v d
  | [], _, _, _, e => by cases e
  | (k', d') :: l, _, d, ⟨v, vs, e1, h1, h2⟩, e => by
    subst e1
    by_cases hk : k' = k
    · have e2 : lookD ((k', d') :: l) k = some d' := by
        unfold lookD
        rw [List.find?_cons_of_pos (by exact decide_eq_true hk)]
        rfl
      rw [e2] at e
      cases e
      exact ⟨v, valV_pos hk, h1⟩
    · have e2 : lookD ((k', d') :: l) k = lookD l k := by
        unfold lookD
        rw [List.find?_cons_of_neg (by rw [decide_eq_false hk]; exact Bool.false_ne_true)]
      rw [e2] at e
      obtain ⟨u, q1, q2⟩ := DaK.look h2 e
      exact ⟨u, by rw [valV_neg hk]; exact q1, q2⟩
theorem DaT.look {K : PySem.W.Frag} {G : Hp} {k : List Key} : ∀ {l : List (List Key × Dt)} {xs : List (List Key × V)} {d : Dt}, DaT K G xs l → lookD l k = some d → ∃ v, valV xs k = some v ∧ Da K G v d
  | [], _, _, _, e => by cases e
  | (k', d') :: l, _, d, ⟨v, vs, e1, h1, h2⟩, e => by
    subst e1
    by_cases hk : k' = k
    · have e2 : lookD ((k', d') :: l) k = some d' := by
        unfold lookD
        rw [List.find?_cons_of_pos (by exact decide_eq_true hk)]
        rfl
      rw [e2] at e
      cases e
      exact ⟨v, valV_pos hk, h1⟩
    · have e2 : lookD ((k', d') :: l) k = lookD l k := by
        unfold lookD
        rw [List.find?_cons_of_neg (by rw [decide_eq_false hk]; exact Bool.false_ne_true)]
      rw [e2] at e
      obtain ⟨u, q1, q2⟩ := DaT.look h2 e
      exact ⟨u, by rw [valV_neg hk]; exact q1, q2⟩
theorem DaK.any {K : PySem.W.Frag} {G : Hp} {k : Key} : ∀ {l : List (Key × Dt)} {xs : List (Key × V)}, DaK K G xs l → (xs.any fun q => decide (q.1 = k)) = l.any fun q => decide (q.1 = k)
  | [], _, h => by cases h; rfl
  | (k', d') :: l, _, ⟨v, vs, e1, h1, h2⟩ => by rw [e1, List.any_cons, List.any_cons, DaK.any h2]
theorem DaT.any {K : PySem.W.Frag} {G : Hp} {k : List Key} : ∀ {l : List (List Key × Dt)} {xs : List (List Key × V)}, DaT K G xs l → (xs.any fun q => decide (q.1 = k)) = l.any fun q => decide (q.1 = k)
  | [], _, h => by cases h; rfl
  | (k', d') :: l, _, ⟨v, vs, e1, h1, h2⟩ => by rw [e1, List.any_cons, List.any_cons, DaT.any h2]
theorem DaK.repl {K : PySem.W.Frag} {G : Hp} {k : Key} {u : V} {d : Dt} (D : Da K G u d) : ∀ {l : List (Key × Dt)} {xs : List (Key × V)}, DaK K G xs l → DaK K G (xs.map fun q => if q.1 = k then (q.1, u) else q) (l.map fun q => if q.1 = k then (q.1, d) else q)
  | [], _, h => by cases h; rfl
  | (k', d') :: l, _, ⟨v, vs, e1, h1, h2⟩ => by
    rw [e1, List.map_cons, List.map_cons]
    by_cases hk : k' = k
    · rw [if_pos (show (k', v).1 = k from hk), if_pos (show (k', d').1 = k from hk)]
      exact ⟨u, _, rfl, D, DaK.repl D h2⟩
    · rw [if_neg (show ¬ (k', v).1 = k from hk), if_neg (show ¬ (k', d').1 = k from hk)]
      exact ⟨v, _, rfl, h1, DaK.repl D h2⟩
theorem DaT.repl {K : PySem.W.Frag} {G : Hp} {k : List Key} {u : V} {d : Dt} (D : Da K G u d) : ∀ {l : List (List Key × Dt)} {xs : List (List Key × V)}, DaT K G xs l → DaT K G (xs.map fun q => if q.1 = k then (q.1, u) else q) (l.map fun q => if q.1 = k then (q.1, d) else q)
  | [], _, h => by cases h; rfl
  | (k', d') :: l, _, ⟨v, vs, e1, h1, h2⟩ => by
    rw [e1, List.map_cons, List.map_cons]
    by_cases hk : k' = k
    · rw [if_pos (show (k', v).1 = k from hk), if_pos (show (k', d').1 = k from hk)]
      exact ⟨u, _, rfl, D, DaT.repl D h2⟩
    · rw [if_neg (show ¬ (k', v).1 = k from hk), if_neg (show ¬ (k', d').1 = k from hk)]
      exact ⟨v, _, rfl, h1, DaT.repl D h2⟩
theorem DaK.snoc {K : PySem.W.Frag} {G : Hp} {k : Key} {u : V} {d : Dt} (D : Da K G u d) : ∀ {l : List (Key × Dt)} {xs : List (Key × V)}, DaK K G xs l → DaK K G (xs ++ [(k, u)]) (l ++ [(k, d)])
  | [], _, h => by cases h; exact ⟨u, [], rfl, D, rfl⟩
  | (k', d') :: l, _, ⟨v, vs, e1, h1, h2⟩ => by
    rw [e1]
    exact ⟨v, vs ++ [(k, u)], rfl, h1, DaK.snoc D h2⟩
theorem DaT.snoc {K : PySem.W.Frag} {G : Hp} {k : List Key} {u : V} {d : Dt} (D : Da K G u d) : ∀ {l : List (List Key × Dt)} {xs : List (List Key × V)}, DaT K G xs l → DaT K G (xs ++ [(k, u)]) (l ++ [(k, d)])
  | [], _, h => by cases h; exact ⟨u, [], rfl, D, rfl⟩
  | (k', d') :: l, _, ⟨v, vs, e1, h1, h2⟩ => by
    rw [e1]
    exact ⟨v, vs ++ [(k, u)], rfl, h1, DaT.snoc D h2⟩
theorem DaK.put {K : PySem.W.Frag} {G : Hp} {k : Key} {u : V} {d : Dt} {l : List (Key × Dt)} {xs : List (Key × V)} (h : DaK K G xs l) (D : Da K G u d) : DaK K G (putK xs k u) (putD l k d) := by
  unfold putK putD
  rw [h.any]
  split
  · exact h.repl D
  · exact h.snoc D
theorem DaT.put {K : PySem.W.Frag} {G : Hp} {k : List Key} {u : V} {d : Dt} {l : List (List Key × Dt)} {xs : List (List Key × V)} (h : DaT K G xs l) (D : Da K G u d) : DaT K G (putK xs k u) (putD l k d) := by
  unfold putK putD
  rw [h.any]
  split
  · exact h.repl D
  · exact h.snoc D
theorem DaK.len {K : PySem.W.Frag} {G : Hp} : ∀ {l : List (Key × Dt)} {xs : List (Key × V)}, DaK K G xs l → xs.length = l.length
  | [], _, h => by cases h; rfl
  | (_, _) :: l, _, ⟨v, vs, e1, h1, h2⟩ => by rw [e1, List.length_cons, List.length_cons, DaK.len h2]
theorem DaT.len {K : PySem.W.Frag} {G : Hp} : ∀ {l : List (List Key × Dt)} {xs : List (List Key × V)}, DaT K G xs l → xs.length = l.length
  | [], _, h => by cases h; rfl
  | (_, _) :: l, _, ⟨v, vs, e1, h1, h2⟩ => by rw [e1, List.length_cons, List.length_cons, DaT.len h2]
/-- the key of ints that a tuple is -/
def ikey (ns : List Int) : List Key := ns.map Sum.inl
theorem ikey_v (ns : List Int) : (ikey ns).map kV = ns.map V.int := by
  unfold ikey
  rw [List.map_map]
  rfl
/-- d[k], d known, k an int -/
theorem ev_dget (h : Ev B ta Γ fun d1 Γ1 => Ev B tb Γ1 fun d2 Γ2 => ∃ l i e, d1 = .dk l ∧ d2 = .int i ∧ lookD l (.inl i) = some e ∧ Φ e Γ2) : Ev B (tDGet ta tb) Γ Φ := fun gy hy w G H σ S Q k =>
  h gy hy w G H σ S _ fun v1 d1 Γ1 G1 H1 h1 s1 S1 D1 => h1 gy hy w G1 H1 σ S1 _ fun v2 d2 Γ2 G2 H2 ⟨l, i, e, e1, e2, hl, hp⟩ s2 S2 D2 => by
    subst e1 e2
    obtain ⟨a, xs, q1, q2, q3⟩ := Da.up s2 _ D1
    obtain ⟨v, z1, z2⟩ := q3.look hl
    have e3 : v2 = .int i := D2
    subst e3
    exact ⟨a, v, q1, .inl ⟨xs, .inl i, .inl (S2.gh _ _ q2), rfl, z1.symm⟩, k v e Γ2 G2 H2 hp (s1.trans s2) S2 z2⟩
/-- d[t], d known, t a tuple of ints -/
theorem ev_dgetT (h : Ev B ta Γ fun d1 Γ1 => Ev B tb Γ1 fun d2 Γ2 => ∃ l ns e, d1 = .dt l ∧ d2 = .tup (ns.map .int) ∧ lookD l (ikey ns) = some e ∧ Φ e Γ2) : Ev B (tDGet ta tb) Γ Φ := fun gy hy w G H σ S Q k =>
  h gy hy w G H σ S _ fun v1 d1 Γ1 G1 H1 h1 s1 S1 D1 => h1 gy hy w G1 H1 σ S1 _ fun v2 d2 Γ2 G2 H2 ⟨l, ns, e, e1, e2, hl, hp⟩ s2 S2 D2 => by
    subst e1 e2
    obtain ⟨a, xs, q1, q2, q3⟩ := Da.up s2 _ D1
    obtain ⟨b, ys, y1, y2, y3⟩ := D2
    obtain ⟨v, z1, z2⟩ := q3.look hl
    exact ⟨a, v, q1, .inr ⟨xs, ikey ns, b, .inl (S2.gh _ _ q2), y1, by rw [ikey_v, ← DaL.ofInts y3]; exact S2.gh _ _ y2, z1.symm⟩, k v e Γ2 G2 H2 hp (s1.trans s2) S2 z2⟩
/-- d[t], d a slot's own dict of tuples -/
theorem ev_dgetO {i : Nat} {l0 : List (List Key × Dt)} (h0 : Γ[i]? = some (.t l0)) (h : Ev B tb Γ fun d2 Γ2 => ∃ l ns e, Γ2[i]? = some (.t l) ∧ d2 = .tup (ns.map .int) ∧ lookD l (ikey ns) = some e ∧ Φ e Γ2) : Ev B (tDGet (tVar i) tb) Γ Φ := fun gy hy w G H σ S Q k => by
  obtain ⟨p0, _, e0, _⟩ := S.sl i _ h0
  refine ⟨.ref p0, e0, h gy hy w G H σ S _ fun v2 d2 Γ2 G2 H2 ⟨l, ns, e, hi, e2, hl, hp⟩ s2 S2 D2 => ?_⟩
  subst e2
  obtain ⟨p, xs, e1, q1, q2, q3, q4, q5⟩ := S2.sl i _ hi
  obtain rfl : p = p0 := by
    rw [e0] at e1
    cases e1
    rfl
  obtain ⟨b, ys, y1, y2, y3⟩ := D2
  obtain ⟨v, z1, z2⟩ := q5.look hl
  exact ⟨p, v, rfl, .inr ⟨xs, ikey ns, b, .inl q4, y1, by rw [ikey_v, ← DaL.ofInts y3]; exact S2.gh _ _ y2, z1.symm⟩, k v e Γ2 G2 H2 hp s2 S2 z2⟩
/-- d[k], d a slot's own dict of ints -/
theorem ev_dgetOK {i : Nat} {l0 : List (Key × Dt)} (h0 : Γ[i]? = some (.k l0)) (h : Ev B tb Γ fun d2 Γ2 => ∃ l n e, Γ2[i]? = some (.k l) ∧ d2 = .int n ∧ lookD l (.inl n) = some e ∧ Φ e Γ2) : Ev B (tDGet (tVar i) tb) Γ Φ := fun gy hy w G H σ S Q k => by
  obtain ⟨p0, _, e0, _⟩ := S.sl i _ h0
  refine ⟨.ref p0, e0, h gy hy w G H σ S _ fun v2 d2 Γ2 G2 H2 ⟨l, n, e, hi, e2, hl, hp⟩ s2 S2 D2 => ?_⟩
  subst e2
  obtain ⟨p, xs, e1, q1, q2, q3, q4, q5⟩ := S2.sl i _ hi
  obtain rfl : p = p0 := by
    rw [e0] at e1
    cases e1
    rfl
  have e3 : v2 = .int n := D2
  subst e3
  obtain ⟨v, z1, z2⟩ := q5.look hl
  exact ⟨p, v, rfl, .inl ⟨xs, .inl n, .inl q4, rfl, z1.symm⟩, k v e Γ2 G2 H2 hp s2 S2 z2⟩
/-- d[k] = value, d a slot's own dict -/
theorem sv_dput {i : Nat} (h : Ev B te Γ fun d Γ1 => ∃ l0, Γ1[i]? = some (.k l0) ∧ Ev B tb Γ1 fun d2 Γ2 => ∃ l n, Γ2[i]? = some (.k l) ∧ d2 = .int n ∧ l.length < 100000 ∧ A.nx (Γ2.set i (.k (putD l (.inl n) d)))) : Sv B (sDPut (tVar i) tb te) Γ A := fun gy hy w G H σ D S k1 _ _ _ => by
  refine h gy hy w G H σ S _ fun v d Γ1 G1 H1 ⟨l0, hi0, h1⟩ s1 S1 D1 => ?_
  obtain ⟨p0, _, e0, _⟩ := S1.sl i _ hi0
  refine ⟨.ref p0, e0, h1 gy hy w G1 H1 σ S1 _ fun v2 d2 Γ2 G2 H2 ⟨l, n, hi, e2, hl, hp⟩ s2 S2 D2 => ?_⟩
  subst e2
  obtain ⟨p, xs, e1, q1, q2, q3, q4, q5⟩ := S2.sl i _ hi
  obtain rfl : p = p0 := by
    rw [e0] at e1
    cases e1
    rfl
  have e3 : v2 = .int n := D2
  subst e3
  refine ⟨p, _, rfl, .inl ⟨xs, .inl n, q4, rfl, by rw [q5.len]; exact Nat.lt_of_lt_of_le hl (by decide), rfl⟩, k1 _ G2 _ σ hp (s1.trans s2) (S2.write hi rfl e1 ?_)⟩
  exact ⟨p, _, rfl, q1, q2, q3, upd_same, q5.put (Da.up s2 _ D1)⟩
theorem sv_dputT {i : Nat} (h : Ev B te Γ fun d Γ1 => ∃ l0, Γ1[i]? = some (.t l0) ∧ Ev B tb Γ1 fun d2 Γ2 => ∃ l ns, Γ2[i]? = some (.t l) ∧ d2 = .tup (ns.map .int) ∧ l.length < 100000 ∧ A.nx (Γ2.set i (.t (putD l (ikey ns) d)))) : Sv B (sDPut (tVar i) tb te) Γ A := fun gy hy w G H σ D S k1 _ _ _ => by
  refine h gy hy w G H σ S _ fun v d Γ1 G1 H1 ⟨l0, hi0, h1⟩ s1 S1 D1 => ?_
  obtain ⟨p0, _, e0, _⟩ := S1.sl i _ hi0
  refine ⟨.ref p0, e0, h1 gy hy w G1 H1 σ S1 _ fun v2 d2 Γ2 G2 H2 ⟨l, ns, hi, e2, hl, hp⟩ s2 S2 D2 => ?_⟩
  subst e2
  obtain ⟨p, xs, e1, q1, q2, q3, q4, q5⟩ := S2.sl i _ hi
  obtain rfl : p = p0 := by
    rw [e0] at e1
    cases e1
    rfl
  obtain ⟨b, ys, y1, y2, y3⟩ := D2
  refine ⟨p, _, rfl, .inr ⟨xs, ikey ns, b, q4, y1, by rw [ikey_v, ← DaL.ofInts y3]; exact S2.gh _ _ y2, by rw [q5.len]; exact Nat.lt_of_lt_of_le hl (by decide), rfl⟩, k1 _ G2 _ σ hp (s1.trans s2) (S2.write hi rfl e1 ?_)⟩
  exact ⟨p, _, rfl, q1, q2, q3, upd_same, q5.put (Da.up s2 _ D1)⟩
/-- name = {} -/
theorem sv_asgDk {i : Nat} (hi : i < Γ.length) (h : A.nx (Γ.set i (.k []))) : Sv B (tAsg tDNewK (gName i)) Γ A := fun gy hy w G H σ D S k1 _ _ _ => fun p np =>
  k1 _ G _ _ h (Same.refl G) ((S.ext (Ext.newH S.gh np)).setOwn (p := p) (α := .k []) ⟨p, [], rfl, S.gh.free np, h0_fresh S np, hx_fresh S np, upd_same, rfl⟩ hi (own_fresh S np))
/-! ### a, b = x, y -/
theorem sv_par {i j : Nat} {t1 t2 : TE} (h : Ev B t1 Γ fun d1 Γ1 => Ev B t2 Γ1 fun d2 Γ2 => i < Γ2.length ∧ j < Γ2.length ∧ A.nx ((Γ2.set i (.d d1)).set j (.d d2))) : Sv B (tPar i j (tCons t1 (tCons t2 tNil))) Γ A := fun gy hy w G H σ D S k1 _ _ _ =>
  h gy hy w G H σ S _ fun v1 d1 Γ1 G1 H1 h1 s1 S1 D1 => h1 gy hy w G1 H1 σ S1 _ fun v2 d2 Γ2 G2 H2 ⟨hi, hj, hp⟩ s2 S2 D2 =>
    ⟨v1, v2, rfl, k1 _ G2 H2 _ hp (s1.trans s2) ((S2.setD (Da.up s2 _ D1) hi).setD D2 (by rw [List.length_set]; exact hj))⟩
end
end Cp
/-! Cp7: own exceptions with one field whose __init__ calls the base's by name; try with several clauses, some with a name. -/
namespace Cp
open PySem PySem.Spec PyProof.Rows L2

/-! ### several except clauses, some with a name -/
abbrev Clause := Value × Option Nat × (Addr → Value → Option Addr → TS)
/-- the suite's ends, where the name in slot i goes again -/
def goneE (D : Ends) (i : Nat) : Ends := { nx := fun σ H => D.nx (σ.set i none) H, rt := D.rt, bk := fun σ H => D.bk (σ.set i none) H, ct := fun σ H => D.ct (σ.set i none) H }
def wishes (K : PySem.W.Frag) (Wout : WX) (D : Ends) : List Clause → WX
  | [] => Wout
  | (c, none, ts) :: r => fun cls d σ H => ∃ y, PySem.W.exmOne K cls c = some y ∧ (y = true → ∀ ea, H ea = none → ts ea cls d D σ H) ∧ (y = false → wishes K Wout D r cls d σ H)
  | (c, some i, ts) :: r => fun cls d σ H => ∃ y, PySem.W.exmOne K cls c = some y ∧ (y = true → ∀ ea, H ea = none → ts ea cls d (goneE D i) (σ.set i (some (.ref ea))) H) ∧ (y = false → wishes K Wout D r cls d σ H)
inductive Clauses (Y : Cx) : List ExceptHandler → List Clause → Prop
  | nil : Clauses Y [] []
  | bare {x : Str} {c : Value} {ts : Addr → Value → Option Addr → TS} {s0 : Stmt} {ss : List Stmt} {np hp : Pos} {hds : List ExceptHandler} {l : List Clause} (hc : Names Y x c)
      (su : ∀ (ea : Addr) (eo : Obj) (cls : Value) (d : Option Addr) (pn : List (Addr × Obj)), Zc cls d eo → (∃ fv, eo.data = .fields fv) → PSs (Y.suite ea ((ea, eo) :: pn)) (s0 :: ss) (ts ea cls d)) (r : Clauses Y hds l) :
      Clauses Y (.ExceptHandler (some (.Name x np)) none (s0 :: ss) hp :: hds) ((c, none, ts) :: l)
  | named {x n : Str} {i : Nat} {c : Value} {ts : Addr → Value → Option Addr → TS} {s0 : Stmt} {ss : List Stmt} {np hp : Pos} {hds : List ExceptHandler} {l : List Clause} (hc : Names Y x c)
      (ni : Y.N[i]? = some n) (nl : Y.env.kindOf n = some .local)
      (su : ∀ (ea : Addr) (eo : Obj) (cls : Value) (d : Option Addr) (pn : List (Addr × Obj)), Zc cls d eo → (∃ fv, eo.data = .fields fv) → PSs (Y.suite ea ((ea, eo) :: pn)) (s0 :: ss) (ts ea cls d)) (r : Clauses Y hds l) :
      Clauses Y (.ExceptHandler (some (.Name x np)) (some n) (s0 :: ss) hp :: hds) ((c, some i, ts) :: l)
section
variable {Y : Cx} {body : List Stmt} {hd0 : ExceptHandler} {hds : List ExceptHandler} {cl : List Clause} {pos : Pos} {tb : WX → TS} {Wout : WX}
theorem ps_tryA (hst : Y.stack = Y.env :: Y.outer) (hfr0 : Y.env.frame = some Y.env.locals) (hND : Y.N.Nodup) (tk : Takes Y Wout)
    (hb : ∀ (W : WX) (pn : List (Addr × Obj)) (xe : Value → Shared → Prop), Takes (Y.tr pn xe) W → PassesOwn (model Y.prog Y.w) Y.A Y.env xe → PSs (Y.tr pn xe) body (tb W))
    (hh : Clauses Y (hd0 :: hds) cl) : PS Y (.Try body (hd0 :: hds) [] [] pos) (fun D σ H => tb (wishes Y.K Wout D cl) D σ H) := by
  refine ⟨fun pins st0 σ H D I hw => ?_⟩
  have okY := I.ok
  have hfr : Y.A.frames = some (Y.env :: Y.outer) := by rw [okY.frames, hst]
  refine wpAny_Try_except ?_
  let xe1 : Value → Shared → Prop := fun e t1 => wpAny (model Y.prog Y.w) Y.A (noteFrame e Y.env) (fun _ t2 => wpAny (model Y.prog Y.w) Y.A (setFlight e none) (fun _ t3 =>
    wpAny (model Y.prog Y.w) Y.A (handleBy e Y.env (hd0 :: hds)) (SP Y pins D) Y.xe t3) Y.xe t2) Y.xe t1
  have land : Takes (Y.tr (Y.pn ++ pins) xe1) (wishes Y.K Wout D cl) := fun u sE xx => by
    obtain ⟨ea, Bh, sI, pins', σ', H', cls, d, rfl, J', nb, up, sky, na, os, ag, wsh⟩ := xx
    have J : Inv Y pins σ' H' sI := J'.ofTry okY
    have sky' : Sky Bh (Y.env :: Y.outer) ea (Zc cls d) Y.env.locals sE.heap := by rw [← hst]; exact sky
    show wpAny (model Y.prog Y.w) Y.A (noteFrame (.ref ea) Y.env) _ _ _
    refine Sky.land Zc.steady hfr hfr0 sky' fun hpA flA upA => ?_
    have JA : Inv Y pins σ' H' { sE with heap := hpA } := J.landed nb flA.1 (up.trans upA) os ag
    obtain ⟨oA, fA, heA, hzA, hdA⟩ := flA.there
    have nfr : ea ∉ frs (Y.env :: Y.outer) := fun hm => by
      obtain ⟨_, o2, e2, hnf⟩ := flA.2.2.1.mem hm
      rw [heA] at e2
      cases e2
      exact hnf _ hdA
    have nL : ea ≠ Y.env.locals := fun z => nfr (List.mem_filterMap.mpr ⟨Y.env, List.mem_cons_self, by rw [hfr0, z]⟩)
    have nF : ea ∉ Y.fs := fun hm => by
      obtain ⟨ee, he, q⟩ := List.mem_filterMap.mp hm
      exact nfr (List.mem_filterMap.mpr ⟨ee, List.mem_cons_of_mem _ he, q⟩)
    have SA := JA.suite heA hdA na nL nF
    have LT : PySem.W.Looks (model Y.prog Y.w) hpA (typeOf (.ref ea)) cls := fun A Q E s k q => wpAny_typeOf_ref (k _ _ heA) (by rw [hzA.1]; exact q)
    have test : ∀ {x : Str} {np : Pos} {c : Value} {Q : Value → Shared → Prop} {E : Value → Shared → Prop}, Names Y x c → Q c { sE with heap := hpA } →
        wpAny (model Y.prog Y.w) (Y.A.mark (some (.ref ea))) (eval (.Name x np) Y.env) Q E { sE with heap := hpA } := fun {x np c Q E} hc q => by
      obtain ⟨g1, g2, g3 | ⟨g3, g4, g5⟩⟩ := hc
      · exact ld_glob (X := Y.suite ea ((ea, oA) :: (Y.pn ++ pins))) SA g1 g3 q g2
      · exact ld_blt (X := Y.suite ea ((ea, oA) :: (Y.pn ++ pins))) SA g1 g3 g4 q g5 g2
    have go : ∀ {hds' : List ExceptHandler} {cl' : List Clause}, Clauses Y hds' cl' → wishes Y.K Wout D cl' cls d σ' H' → wpAny (model Y.prog Y.w) Y.A (handleBy (.ref ea) Y.env hds') (SP Y pins D) Y.xe { sE with heap := hpA } := by
      intro hds' cl' hk
      induction hk with
      | nil =>
        intro ww
        refine wpAny_handleBy_nil ?_
        obtain ⟨_, _, _, oe, vs, T, oT, ts', he, hz, hd, h1, hr⟩ := id flA
        unfold PySem.passOn
        refine wpAny_bind (wpAny_field he hd h1 ?_)
        rw [if_neg (show ¬ ((Value.ref T == Value.none) = true) by simp)]
        have fin : wpAny (model Y.prog Y.w) Y.A (setFlight (.ref ea) Y.env.frame) (fun _ t4 => wpAny (model Y.prog Y.w) Y.A (throw (.ref ea) : Sem Flow) (SP Y pins D) Y.xe t4) Y.xe { sE with heap := hpA } := by
          rw [hfr0]
          refine HandSPX.setFlight_upZ flA fun hB hhB upB => wpAny_throw (tk _ _ ⟨ea, Bh, sI, pins, σ', H', cls, d, rfl, J, nb, (up.trans upA).trans upB, .inr (.inr ?_), na, os, ag, ww⟩)
          rw [hst]
          exact hhB
        first
          | exact wpAny_bind (wpAny_pure (wpAny_bind fin))
          | exact wpAny_bind fin
      | @bare x c ts s0 ss np hp hds2 l2 hc su r ih =>
        intro ww
        obtain ⟨y, hy, hyes, hno⟩ := ww
        refine wpAny_handleBy_cons (codeAny_handlers_test ?_) (fun z => nomatch z)
        refine test hc ((PySem.W.exm_one (M := model Y.prog Y.w) JA.kIn LT hy).here ?_)
        cases y with
        | false => exact ih (hno rfl)
        | true =>
          refine codeAny_handlers_suite (HandSPX.lands_againZ flA fun hB flB upB => ?_)
          have JB : Inv Y pins σ' H' { sE with heap := hB } := J.landed nb flB.1 ((up.trans upA).trans upB) os ag
          obtain ⟨oB, fB, heB, hzB, hdB⟩ := flB.there
          refine wpAny_mono ((su ea oB cls d (Y.pn ++ pins) hzB ⟨_, hdB⟩).run [] _ _ H' _ (JB.suite heB hdB na nL nF) (hyes rfl ea na)) (fun f t6 q6 => ?_) (fun _ _ z => False.elim z)
          cases f with
          | ret u =>
            obtain ⟨v6, σ6, H6, S6, r6, q⟩ := q6
            exact ⟨_, _, _, S6.unsuite okY, r6, q⟩
          | next =>
            obtain ⟨σ6, H6, S6, q⟩ := q6
            exact ⟨_, _, S6.unsuite okY, q⟩
          | brk =>
            obtain ⟨σ6, H6, S6, q⟩ := q6
            exact ⟨_, _, S6.unsuite okY, q⟩
          | cont =>
            obtain ⟨σ6, H6, S6, q⟩ := q6
            exact ⟨_, _, S6.unsuite okY, q⟩
      | @named x n i c ts s0 ss np hp hds2 l2 hc ni nl su r ih =>
        intro ww
        obtain ⟨y, hy, hyes, hno⟩ := ww
        refine wpAny_handleBy_cons (codeAny_handlers_test ?_) (fun z => nomatch z)
        refine test hc ((PySem.W.exm_one (M := model Y.prog Y.w) JA.kIn LT hy).here ?_)
        cases y with
        | false => exact ih (hno rfl)
        | true =>
          refine codeAny_handlers_suite_as (HandSPX.lands_againZ flA fun hB flB upB => ?_)
          have JB : Inv Y pins σ' H' { sE with heap := hB } := J.landed nb flB.1 ((up.trans upA).trans upB) os ag
          obtain ⟨oB, fB, heB, hzB, hdB⟩ := flB.there
          refine store_ok (X := Y.suite ea ((ea, oB) :: (Y.pn ++ pins))) (v := .ref ea) (JB.suite heB hdB na nL nF) hND ni (.inl nl) rfl (fun t5 S5 => ?_) (.inr nl)
          refine wpAny_mono ((su ea oB cls d (Y.pn ++ pins) hzB ⟨_, hdB⟩).run [] t5 _ H' _ S5 (hyes rfl ea na)) (fun f t6 q6 => ?_) (fun _ _ z => False.elim z)
          cases f with
          | ret u =>
            obtain ⟨v6, σ6, H6, S6, r6, q⟩ := q6
            exact gone_ok (S6.unsuite okY) hND ni nl fun s7 J7 => ⟨_, _, _, J7, r6, q⟩
          | next =>
            obtain ⟨σ6, H6, S6, q⟩ := q6
            exact gone_ok (S6.unsuite okY) hND ni nl fun s7 J7 => ⟨_, _, J7, q⟩
          | brk =>
            obtain ⟨σ6, H6, S6, q⟩ := q6
            exact gone_ok (S6.unsuite okY) hND ni nl fun s7 J7 => ⟨_, _, J7, q⟩
          | cont =>
            obtain ⟨σ6, H6, S6, q⟩ := q6
            exact gone_ok (S6.unsuite okY) hND ni nl fun s7 J7 => ⟨_, _, J7, q⟩
    exact go hh wsh
  refine wpAny_mono ((hb (wishes Y.K Wout D cl) (Y.pn ++ pins) xe1 land PassesOwn.looking).run [] st0 σ H D (I.toTry _) hw) (fun f t1 q1 => ?_) (fun e t1 he => he)
  cases f with
  | ret u =>
    obtain ⟨v, σ', H', J', r, q⟩ := q1
    exact ⟨v, σ', H', J'.ofTry okY, r, q⟩
  | next =>
    obtain ⟨σ', H', J', q⟩ := q1
    exact wpAny_execs_nil ⟨σ', H', J'.ofTry okY, q⟩
  | brk =>
    obtain ⟨σ', H', J', q⟩ := q1
    exact ⟨σ', H', J'.ofTry okY, q⟩
  | cont =>
    obtain ⟨σ', H', J', q⟩ := q1
    exact ⟨σ', H', J'.ofTry okY, q⟩

/-! ### R.__init__(self, ..), R an own class below ValueError without an __init__ -/
/-- what the written part says of the base's name -/
structure BaseC (K : PySem.W.Frag) (mg : Str → Option Value) (x : Str) (R : Addr) (mc : Value) : Prop where
  g : mg x = some (.ref R)
  rd : ClX.CRead K R mc
  at_ : PySem.W.findCls K (.ref R) mc "__init__" = some (.val (.builtin "ValueError.__init__"))
theorem pe_binit {x : Str} {R : Addr} {mc : Value} {e : Expr} {es : List Expr} {ta : TA} {p1 p2 pos : Pos} {pl : Sem Bool} (T : BaseC Y.K Y.mg x R mc) (ha : PA Y (e :: es) ta) (hg : Gl Y x := by rfl) (hdb : (x == ("__debug__" : Str)) = false := by decide)
    (hc : eval (.Call (.Attribute (.Name x p1) "__init__" p2) (e :: es) [] pos) Y.env = (do
      let cv ← eval (.Name x p1) Y.env
      standAt p2.atName
      let (fv, fst) ← holding [cv] (getMethod cv "__init__" pl)
      callWith pos fv fst (backTo pos (starEach (e :: es) Y.env)) (backToKw pos (keywordEach [] Y.env))) := by rfl)
    (hse : starEach (e :: es) Y.env = (false, eval e Y.env) :: starEach es Y.env := by rfl) (hpl : (backTo pos (starEach es Y.env)).any (·.1) = false := by rfl) :
    PE Y (.Call (.Attribute (.Name x p1) "__init__" p2) (e :: es) [] pos) (tVeI Y.K ta) := by
  refine ⟨fun pins s σ H Q I h => ?_⟩
  refine PySem.W.methodCall_KW (ld_glob I hg T.g ?_ hdb) hc
  refine PySem.W.method_cls I.kIn T.rd.ga (PySem.W.cls_value I.kIn T.rd.rd T.at_ (by decide +kernel) ?_)
  refine PyProof.Rows.callWith_method1 (thn (ha.run pos pins _ σ H _ (I.tok _) h) fun us s1 ⟨vs, H1, I1, r1, a, C, ws, ev, hl, TC, ea, q⟩ => ?_) hse hpl
  subst ev
  cases r1 with
  | @cons _ u0 _ ur ra rw' =>
    obtain rfl : u0 = Value.ref a := ra
    exact oinit_ok TC I1 ea (by rw [← Paired.length rw', sizeLine_eq]; omega) fun s2 J => ⟨.non, H1, J, rfl, q⟩
end

/-! ### such a class -/
/-- the class at C, its __init__ at f -/
structure ErrC (K : PySem.W.Frag) (mg : Str → Option Value) (x : Str) (C f : Addr) : Prop where
  g : mg x = some (.ref C)
  o : OexC K C
  i : PySem.W.findIn K (.ref C) "__init__" = some (some (.ref f))
  t : PySem.W.typeIn K (.ref f) = some (.type "function")
  n : PySem.W.findIn K (.ref C) gvn = some none
  x : XfC K C
/-- its __init__ -/
def spInit (K : PySem.W.Frag) : Sp := fun vs H Q _ => ∃ a C v, vs = [.ref a, v] ∧ OexC K C ∧ PySem.W.findIn K (.ref C) gvn = some none ∧ H a = some (exo a C none) ∧
  ∀ dx, H dx = none → dx ≠ a → Q .non (upd (upd H dx (exd dx [(gvn, v)])) a (exo a C (some dx)))
theorem init_run {K : PySem.W.Frag} {vs : List V} {H : Hp} {Q : VK} {E : XK} {m : V} (h : spInit K vs H Q E) : tSeq (tDrop (tVeI K (tCons (tVar 0) (tCons (tC m) tNil)))) (tOst K gvn (tVar 0) (tVar 1)) { nx := fun _ H' => Q .non H', rt := Q } (L2.start ["self", "given"] vs) H := by
  obtain ⟨a, C, v, rfl, T, hn, ha, q⟩ := h
  exact ⟨_, rfl, a, C, [m], rfl, (by show 1 ≤ 1000; decide), T, ha, v, rfl, .ref a, rfl, a, C, rfl, T, hn, .inl ⟨ha, fun dx n ne => q dx n ne⟩⟩
/-- raise C(e) -/
theorem sv_raise {B : Cs} {Γ : Env} {A : AE} {x : Str} {mg : Str → Option Value} {C f : Addr} {te : TE} (T : ErrC B.K mg x C f) (h : Ev B te Γ fun d Γ' => B.Xi C d Γ') :
    Sv B (fun _ σ H => tMkO C (spInit B.K) [] (tCons te tNil) σ H fun cls d H' => B.W cls d σ H') Γ A := fun gy hy w G H σ D S _ _ _ _ =>
  h gy hy w G H σ S _ fun v d Γ1 G1 H1 hx s1 S1 D1 => ⟨by show 1 ≤ 1000; decide, fun a na => ⟨a, C, v, rfl, T.o, T.n, upd_same, fun dx nd ne => ⟨rfl, dx, [(gvn, v)], upd_same, by rw [upd_ne ne]; exact upd_same, by rw [upd_ne ne] at nd; exact nd, by
    have nd1 : H1 dx = none := by
      rw [upd_ne ne] at nd
      exact nd
    have sm : Same H1 (upd (del (upd (upd (upd H1 a (exo a C none)) dx (exd dx [(gvn, v)])) a (exo a C (some dx))) a) dx (.xd [(gvn, v)])) := fun c o z => by
      have c1 : c ≠ a := ne_of_none z na
      have c2 : c ≠ dx := ne_of_none z nd1
      rw [upd_ne c2, del_ne c1, upd_ne c1, upd_ne c2, upd_ne c1]
      exact z
    exact w.wok C d dx v Γ1 G1 _ σ hx (w.back (S1.ext ⟨Same.refl _, sm, S1.gh.trans sm, fun _ _ z => .inl z⟩)) upd_same D1⟩⟩⟩

/-! ### try over environments -/
/-- e.given of the exception that the suite holds -/
theorem ev_given {B : Cs} {Γ : Env} {Φ : Dt → Env → Prop} {i : Nat} {ea C dd : Addr} {v : V} {d : Dt} (h : Γ[i]? = some (.v (.ref ea))) (hd : B.Hx.h dd = some (.xd [(gvn, v)])) (D : Da B.K B.Gx v d) (q : Φ d Γ) : Ev B (tXf ea (.ref C) (some dd) C gvn (tVar i)) Γ Φ := fun gy hy w G H σ S Q k =>
  ⟨.ref ea, S.sl i _ h, rfl, rfl, dd, _, v, rfl, S.hx _ _ (w.hy _ _ hd), by simp [List.lookup], k v d Γ G H q (Same.refl G) S (Da.up (w.gy.trans S.gx) _ D)⟩
/-- a slot takes a value as it is -/
theorem Sl.setV {b : Bs} {G H : Hp} {σ : L2.St} {Γ : Env} {i : Nat} {v : V} (S : Sl b G H σ Γ) : Sl b G H (σ.set i (some v)) (Γ.set i (.v v)) := by
  refine ⟨S.gx, S.hx, S.px, S.h1, S.gh, S.ff, by rw [List.length_set, List.length_set]; exact S.len, fun j α q => ?_, fun j k α β p h1 h2 h3 h4 h5 h6 => ?_⟩
  · by_cases hj : i = j
    · subst hj
      have hi : i < Γ.length := by
        have z := (List.getElem?_eq_some_iff.mp q).1
        rw [List.length_set] at z
        exact z
      rw [List.getElem?_set_self hi] at q
      cases q
      exact List.getElem?_set_self (by rw [← S.len]; exact hi)
    · rw [List.getElem?_set_ne hj] at q ⊢
      exact S.sl j α q
  · have ne : ∀ {m : Nat} {ε : Arg}, (Γ.set i (.v v))[m]? = some ε → ε.own = true → i ≠ m := fun {m ε} e1 e2 z => by
      subst z
      have hi : i < Γ.length := by
        have z := (List.getElem?_eq_some_iff.mp e1).1
        rw [List.length_set] at z
        exact z
      rw [List.getElem?_set_self hi] at e1
      cases e1
      cases e2
    have nj := ne h1 h2
    have nk := ne h4 h5
    rw [List.getElem?_set_ne nj] at h1 h3
    rw [List.getElem?_set_ne nk] at h4 h6
    exact S.nd j k α β p h1 h2 h3 h4 h5 h6
def Cs.gr (B : Cs) (Gy : Hp) (Hy : Gh) : Cs := ⟨⟨B.K, B.G0, B.H0, Gy, Hy⟩, B.W, B.Xi⟩
def Cs.tr (B : Cs) (W : WX) (Xi : Addr → Dt → Env → Prop) (Gy : Hp) (Hy : Gh) : Cs := ⟨⟨B.K, B.G0, B.H0, Gy, Hy⟩, W, Xi⟩
/-- what the clauses make of an exception of the class at C that was given d -/
def ClOk (B : Cs) (A : AE) : List Clause → Addr → Dt → Env → Prop
  | [], C, d, Γ => B.Xi C d Γ
  | (c, none, ts) :: r, C, d, Γ => ∃ y, PySem.W.exmOne B.K (.ref C) c = some y ∧ (y = true → ∀ ea dd v Gy Hy, Hy.h dd = some (.xd [(gvn, v)]) → Da B.K Gy v d → Sv (B.gr Gy Hy) (ts ea (.ref C) (some dd)) Γ A) ∧ (y = false → ClOk B A r C d Γ)
  | (c, some i, ts) :: r, C, d, Γ => ∃ y, PySem.W.exmOne B.K (.ref C) c = some y ∧ (y = true → ∀ ea dd v Gy Hy, Hy.h dd = some (.xd [(gvn, v)]) → Da B.K Gy v d →
      Sv (B.gr Gy Hy) (ts ea (.ref C) (some dd)) (Γ.set i (.v (.ref ea))) { nx := fun Γ' => A.nx (Γ'.set i .any), rt := A.rt, bk := fun Γ' => A.bk (Γ'.set i .any), ct := fun Γ' => A.ct (Γ'.set i .any) }) ∧ (y = false → ClOk B A r C d Γ)
theorem sv_try {B : Cs} {Γ : Env} {A : AE} {tb : WX → TS} {cl : List Clause} {Xi : Addr → Dt → Env → Prop} (hb : ∀ W Gy Hy, Sv (B.tr W Xi Gy Hy) (tb W) Γ A) (hcl : ∀ C d Γ', Xi C d Γ' → ClOk B A cl C d Γ') :
    Sv B (fun D σ H => tb (wishes B.K B.W D cl) D σ H) Γ A := fun gy hy w G H σ D S k1 k2 k3 k4 => by
  have S1 : Sl (Cs.b (B.tr (wishes B.K B.W D cl) Xi G hy) G hy) G H σ Γ := Sl.base (b := B.b gy hy) (Gy := G) (Hy := hy) S (Same.refl G) S.hx S.px fun j β p h1 h2 h3 => (S.ownAt h1 h2 h3).2.1
  have bk : ∀ {G' H' : Hp} {σ' : L2.St} {Γ' : Env}, Sl (Cs.b (B.tr (wishes B.K B.W D cl) Xi G hy) G hy) G' H' σ' Γ' → Same G G' ∧ Sl (B.b gy hy) G' H' σ' Γ' := fun {G' H' σ' Γ'} S' =>
    ⟨S'.gx, Sl.base (b := Cs.b (B.tr (wishes B.K B.W D cl) Xi G hy) G hy) (Gy := gy) (Hy := hy) S' (S.gx.trans S'.gx) S'.hx S'.px fun j β p h1 h2 h3 => (S'.ownAt h1 h2 h3).2.1⟩
  have wok : (B.tr (wishes B.K B.W D cl) Xi G hy).Wok := fun C d dd v Γ' G' H' σ' hx S' hdd D' => by
    obtain ⟨sG, S2⟩ := bk S'
    show wishes B.K B.W D cl (.ref C) (some dd) σ' H'
    have all : ∀ cl' : List Clause, ClOk B A cl' C d Γ' → wishes B.K B.W D cl' (.ref C) (some dd) σ' H' := by
      intro cl'
      induction cl' with
      | nil => exact fun z => w.wok C d dd v Γ' G' H' σ' z (w.back S2) hdd D'
      | cons c0 r ih =>
        obtain ⟨c, o, ts⟩ := c0
        -- what stands while the suite runs: the exception's dict besides
        have dfree : ∀ (j : Nat) β p, Γ'[j]? = some β → β.own = true → σ'[j]? = some (some (.ref p)) → p ≠ dd := fun j β p h1 h2 h3 z => by
          have t := S2.sl j β h1
          cases β with
          | any => cases h2
          | v u => cases h2
          | d d => cases h2
          | l ds =>
            obtain ⟨p', _, a1, _, _, _, a2, _⟩ := t
            rw [h3] at a1
            cases a1
            rw [z, hdd] at a2
            cases a2
          | k ds =>
            obtain ⟨p', _, a1, _, _, _, a2, _⟩ := t
            rw [h3] at a1
            cases a1
            rw [z, hdd] at a2
            cases a2
          | t ds =>
            obtain ⟨p', _, a1, _, _, _, a2, _⟩ := t
            rw [h3] at a1
            cases a1
            rw [z, hdd] at a2
            cases a2
          | box q n =>
            obtain ⟨a1, _, _, _, _, _, _, a2, _⟩ := t
            rw [h3] at a1
            cases a1
            rw [z, hdd] at a2
            cases a2
        let hy2 : Gh := ⟨fun c => if c = dd then some (.xd [(gvn, v)]) else hy.h c, hy.p, fun c q => by
          show (if c = dd then some (HO.xd [(gvn, v)]) else hy.h c) ≠ none
          split
          · exact fun z => nomatch z
          · exact hy.q c q⟩
        have hdd2 : hy2.h dd = some (.xd [(gvn, v)]) := if_pos rfl
        have hsub : Same hy.h hy2.h := fun c o z => by
          show (if c = dd then some (HO.xd [(gvn, v)]) else hy.h c) = some o
          by_cases hc : c = dd
          · rw [if_pos hc]
            have z2 := S2.hx c o z
            rw [hc, hdd] at z2
            exact z2
          · rw [if_neg hc]
            exact z
        have wS : Wy (B.gr G' hy2) G' hy2 := ⟨fun C2 d2 dd2 v2 Γ2 G2 H2 σ2 x2 T2 e2 D2 => w.wok C2 d2 dd2 v2 Γ2 G2 H2 σ2 x2 (Sl.base (b := (B.gr G' hy2).toBs) (Gy := B.Gx) (Hy := B.Hx) T2 ((w.gy.trans S2.gx).trans T2.gx) ((w.hy.trans hsub).trans T2.hx) (fun c q => T2.px c (w.hp c q)) fun j β p h1 h2 h3 => (w.hy.trans hsub).free (T2.ownAt h1 h2 h3).2.1) e2 D2, Same.refl _, Same.refl _, fun _ z => z⟩
        have T2 : Sl (Cs.b (B.gr G' hy2) G' hy2) G' H' σ' Γ' := Sl.base (b := B.b gy hy) (Gy := G') (Hy := hy2) S2 (Same.refl _) (fun c o z => by
          have z' : (if c = dd then some (HO.xd [(gvn, v)]) else hy.h c) = some o := z
          by_cases hc : c = dd
          · rw [if_pos hc] at z'
            rw [hc, hdd]
            exact z'
          · rw [if_neg hc] at z'
            exact S2.hx c o z') S2.px fun j β p h1 h2 h3 => by
              show (if p = dd then some (HO.xd [(gvn, v)]) else hy.h p) = none
              rw [if_neg (dfree j β p h1 h2 h3)]
              exact (S2.ownAt h1 h2 h3).2.1
        have back2 : ∀ {G2 H2 : Hp} {σ2 : L2.St} {Γ2 : Env}, Sl (Cs.b (B.gr G' hy2) G' hy2) G2 H2 σ2 Γ2 → Sl (B.b gy hy) G2 H2 σ2 Γ2 := fun {G2 H2 σ2 Γ2} T => Sl.base (b := Cs.b (B.gr G' hy2) G' hy2) (Gy := gy) (Hy := hy) T (S2.gx.trans T.gx) (hsub.trans T.hx) T.px fun j β p h1 h2 h3 => hsub.free (T.ownAt h1 h2 h3).2.1
        cases o with
        | none =>
          rintro ⟨y, hy', hyes, hno⟩
          refine ⟨y, hy', fun e ea na => ?_, fun e => ih (hno e)⟩
          exact hyes e ea dd v G' hy2 hdd2 D' G' hy2 wS G' H' σ' D T2 (fun Γ2 G2 H2 σ2 h2 s2 T3 => k1 Γ2 G2 H2 σ2 h2 (sG.trans s2) (back2 T3)) (fun d v Γ2 G2 H2 σ2 h2 s2 T3 => k2 d v Γ2 G2 H2 σ2 h2 (sG.trans s2) (back2 T3))
            (fun Γ2 G2 H2 σ2 h2 s2 T3 => k3 Γ2 G2 H2 σ2 h2 (sG.trans s2) (back2 T3)) (fun Γ2 G2 H2 σ2 h2 s2 T3 => k4 Γ2 G2 H2 σ2 h2 (sG.trans s2) (back2 T3))
        | some i =>
          rintro ⟨y, hy', hyes, hno⟩
          refine ⟨y, hy', fun e ea na => ?_, fun e => ih (hno e)⟩
          exact hyes e ea dd v G' hy2 hdd2 D' G' hy2 wS G' H' _ (goneE D i) T2.setV (fun Γ2 G2 H2 σ2 h2 s2 T3 => k1 _ G2 H2 _ h2 (sG.trans s2) ((back2 T3).forget i)) (fun d v Γ2 G2 H2 σ2 h2 s2 T3 => k2 d v Γ2 G2 H2 σ2 h2 (sG.trans s2) (back2 T3))
            (fun Γ2 G2 H2 σ2 h2 s2 T3 => k3 _ G2 H2 _ h2 (sG.trans s2) ((back2 T3).forget i)) (fun Γ2 G2 H2 σ2 h2 s2 T3 => k4 _ G2 H2 _ h2 (sG.trans s2) ((back2 T3).forget i))
    exact all cl (hcl C d Γ' hx)
  exact hb (wishes B.K B.W D cl) G hy G hy ⟨wok, Same.refl _, Same.refl _, fun _ z => z⟩ G H σ D S1 (fun Γ' G' H' σ' hp s S' => k1 Γ' G' H' σ' hp s (bk S').2) (fun d v Γ' G' H' σ' hp s S' => k2 d v Γ' G' H' σ' hp s (bk S').2)
    (fun Γ' G' H' σ' hp s S' => k3 Γ' G' H' σ' hp s (bk S').2) (fun Γ' G' H' σ' hp s S' => k4 Γ' G' H' σ' hp s (bk S').2)
end Cp
/-! Cp8: the defs of the top, bundled; steps of readings. -/
namespace Cp
open PySem PySem.Spec PyProof.Rows L2

/-- a def of the top as it stands -/
structure TopD (K : PySem.W.Frag) (mg : Str → Option Value) (x : Str) (st : Stmt) (ps : List Str) (f : Addr) (fd : FuncData) : Prop where
  g : mg x = some (.ref f)
  fn : Fun K x x st f fd
  b : Binds K fd ps []
/-- a def of the top that keeps a promise -/
def DefOk (P : Program) (w : World) (K : PySem.W.Frag) (mg : Str → Option Value) (base : Heap) (CX : CXT) (k : Nat) (x : Str) (ps : List Str) (sp : Sp) : Prop :=
  ∃ f fd, mg x = some (.ref f) ∧ PySem.W.keepIn K (.ref f) = true ∧ Binds K fd ps [] ∧ FnOk P w K mg base CX k f fd ps sp
theorem TopD.ok {P : Program} {w : World} {K : PySem.W.Frag} {mg : Str → Option Value} {base : Heap} {CX : CXT} {k : Nat} {x : Str} {st : Stmt} {ps : List Str} {f : Addr} {fd : FuncData} {sp : Sp} (T : TopD K mg x st ps f fd) (h : FnOk P w K mg base CX k f fd ps sp) : DefOk P w K mg base CX k x ps sp :=
  ⟨f, fd, T.g, T.fn.kp, T.b, h⟩
theorem DefOk.imp {P : Program} {w : World} {K : PySem.W.Frag} {mg : Str → Option Value} {base : Heap} {CX : CXT} {k : Nat} {x : Str} {ps : List Str} {sp sp' : Sp} (T : DefOk P w K mg base CX k x ps sp) (h : ∀ vs H Q E, sp' vs H Q E → sp vs H Q E) : DefOk P w K mg base CX k x ps sp' := by
  obtain ⟨f, fd, h1, h2, h3, h4⟩ := T
  exact ⟨f, fd, h1, h2, h3, h4.imp h⟩
section
variable {X : Cx} {CX : CXT} {k j : Nat} {ps : List Str} {sp : Sp} {E : XK} {x : Str} {p pos : Pos} {e : Expr} {es : List Expr} {t : TA}
theorem pe_d (T : DefOk X.prog X.w X.K X.mg X.base CX k x ps sp) (hr : Room j X.A) (hx : Passes CX X E) (ha : PA X (e :: es) t) (hk : k ≤ j := by decide) (hg : Gl X x := by rfl) (hdb : (x == ("__debug__" : Str)) = false := by decide) (he : starEach (e :: es) X.env = (false, eval e X.env) :: starEach es X.env := by rfl) (hpl : (backTo pos (starEach es X.env)).any (·.1) = false := by rfl) :
    PE X (.Call (.Name x p) (e :: es) [] pos) (tCall sp [] E t) := by
  obtain ⟨f, fd, h1, h2, h3, h4⟩ := T
  exact pe_call (h4.mono hk) hr hg h1 h2 h3 .nil hx ha hdb he hpl
theorem pe_d0 (T : DefOk X.prog X.w X.K X.mg X.base CX k x ps sp) (hr : Room j X.A) (hx : Passes CX X E) (hk : k ≤ j := by decide) (hg : Gl X x := by rfl) (hdb : (x == ("__debug__" : Str)) = false := by decide) :
    PE X (.Call (.Name x p) [] [] pos) (tCall sp [] E tNil) := by
  obtain ⟨f, fd, h1, h2, h3, h4⟩ := T
  exact pe_call0 (h4.mono hk) hr hg h1 h2 h3 .nil hx hdb
theorem pe_dS {EE : L2.St → XK} (T : DefOk X.prog X.w X.K X.mg X.base CX k x ps sp) (hr : Room j X.A) (hx : ∀ σ, PassesAt CX X σ (EE σ)) (ha : PA X (e :: es) t) (hk : k ≤ j := by decide) (hg : Gl X x := by rfl) (hdb : (x == ("__debug__" : Str)) = false := by decide) (he : starEach (e :: es) X.env = (false, eval e X.env) :: starEach es X.env := by rfl) (hpl : (backTo pos (starEach es X.env)).any (·.1) = false := by rfl) :
    PE X (.Call (.Name x p) (e :: es) [] pos) (tCallS sp EE t) := by
  obtain ⟨f, fd, h1, h2, h3, h4⟩ := T
  exact pe_callS (h4.mono hk) hr hg h1 h2 h3 hx ha hdb he hpl
/-- a built-in class as a value -/
theorem pe_ty (c : String) {pos : Pos} (hm : X.mg x = none) (hv : bootBuiltins x = some (.type c) := by decide +kernel) (hg : Gl X x := by rfl) (hn : x ≠ "__name__" := by decide) (hd : (x == ("__debug__" : Str)) = false := by decide) : PE X (.Name x pos) (tC (.ty c)) :=
  pe_bltn hg hm hv (show RelV (.ty c) (.type c) from rfl) hn hd
/-- f(e, ..), f a built-in -/
theorem pe_b {id : String} {r : List V → Hp → VK → Prop} (hc : CallR X (.builtin id) r) (hm : X.mg x = none) (ha : PA X (e :: es) t) (hv : bootBuiltins x = some (.builtin id) := by decide +kernel) (hg : Gl X x := by rfl)  (hdb : (x == ("__debug__" : Str)) = false := by decide) (he : starEach (e :: es) X.env = (false, eval e X.env) :: starEach es X.env := by rfl) (hpl : (backTo pos (starEach es X.env)).any (·.1) = false := by rfl) (hn : x ≠ "__name__" := by decide) :
    PE X (.Call (.Name x p) (e :: es) [] pos) (tCB r t) := pe_callB hc hg hm hv ha (hn := hn) (hdb := hdb) (he := he) (hpl := hpl)
theorem pe_t {id : String} {r : List V → Hp → VK → Prop} (hc : CallR X (.type id) r) (hm : X.mg x = none) (ha : PA X (e :: es) t) (hv : bootBuiltins x = some (.type id) := by decide +kernel) (hg : Gl X x := by rfl)  (hdb : (x == ("__debug__" : Str)) = false := by decide) (he : starEach (e :: es) X.env = (false, eval e X.env) :: starEach es X.env := by rfl) (hpl : (backTo pos (starEach es X.env)).any (·.1) = false := by rfl) (hn : x ≠ "__name__" := by decide) :
    PE X (.Call (.Name x p) (e :: es) [] pos) (tCB r t) := pe_callTy hc hg hm hv ha (hn := hn) (hdb := hdb) (he := he) (hpl := hpl)
end
theorem Pu.len {K : PySem.W.Frag} {n : Nat} {R : List Dt → (Dt → Prop) → Prop} {vs : List V} {H : Hp} {Q : VK} {E : XK} (h : Pu K n R vs H Q E) : vs.length = n := by
  obtain ⟨G, ds, Ψ, s, D, hl, _⟩ := h
  rw [DaL.len D, hl]
theorem PuN.len {K : PySem.W.Frag} {n : Nat} {R : List Dt → (List Dt → Prop) → Prop} {vs : List V} {H : Hp} {Q : VK} {E : XK} (h : PuN K n R vs H Q E) : vs.length = n := by
  obtain ⟨G, ds, Ψ, s, D, hl, _⟩ := h
  rw [DaL.len D, hl]
theorem PuX.len {K : PySem.W.Frag} {n : Nat} {R : List Dt → (Dt → Prop) → (Addr → Dt → Prop) → Prop} {vs : List V} {H : Hp} {Q : VK} {E : XK} (h : PuX K n R vs H Q E) : vs.length = n := by
  obtain ⟨G, ds, Ψ, Ξ, s, D, hl, _⟩ := h
  rw [DaL.len D, hl]
theorem PuXN.len {K : PySem.W.Frag} {n : Nat} {R : List Dt → (List Dt → Prop) → (Addr → Dt → Prop) → Prop} {vs : List V} {H : Hp} {Q : VK} {E : XK} (h : PuXN K n R vs H Q E) : vs.length = n := by
  obtain ⟨G, ds, Ψ, Ξ, s, D, hl, _⟩ := h
  rw [DaL.len D, hl]
theorem PuB.len {K : PySem.W.Frag} {n : Nat} {k : List Dt → Nat} {R : List Dt → (Dt → Prop) → Prop} {vs : List V} {H : Hp} {Q : VK} {E : XK} (h : PuB K n k R vs H Q E) : vs.length = n + 1 := by
  obtain ⟨a, ws, G, ds, m, Ψ, e, s, ga, hb, D, hl, _⟩ := h
  rw [e, List.length_cons, DaL.len D, hl]
/-- what a def of one, two, .. values asks and gives -/
def r0 {β : Type} (f : β → Prop) : List Dt → β → Prop
  | [], Ψ => f Ψ
  | _, _ => False
def r1 {β : Type} (f : Dt → β → Prop) : List Dt → β → Prop
  | [a], Ψ => f a Ψ
  | _, _ => False
def r2 {β : Type} (f : Dt → Dt → β → Prop) : List Dt → β → Prop
  | [a, b], Ψ => f a b Ψ
  | _, _ => False
def r3 {β : Type} (f : Dt → Dt → Dt → β → Prop) : List Dt → β → Prop
  | [a, b, c], Ψ => f a b c Ψ
  | _, _ => False
def r4 {β : Type} (f : Dt → Dt → Dt → Dt → β → Prop) : List Dt → β → Prop
  | [a, b, c, d], Ψ => f a b c d Ψ
  | _, _ => False
def x0 {β γ : Type} (f : β → γ → Prop) : List Dt → β → γ → Prop
  | [], Ψ, Ξ => f Ψ Ξ
  | _, _, _ => False
def x1 {β γ : Type} (f : Dt → β → γ → Prop) : List Dt → β → γ → Prop
  | [a], Ψ, Ξ => f a Ψ Ξ
  | _, _, _ => False
def x2 {β γ : Type} (f : Dt → Dt → β → γ → Prop) : List Dt → β → γ → Prop
  | [a, b], Ψ, Ξ => f a b Ψ Ξ
  | _, _, _ => False
theorem ds1 {ds : List Dt} (h : ds.length = 1) : ∃ a, ds = [a] := List.length_eq_one_iff.mp h
theorem ds2 {ds : List Dt} (h : ds.length = 2) : ∃ a b, ds = [a, b] := by
  match ds, h with
  | [a, b], _ => exact ⟨a, b, rfl⟩
theorem ds3 {ds : List Dt} (h : ds.length = 3) : ∃ a b c, ds = [a, b, c] := by
  match ds, h with
  | [a, b, c], _ => exact ⟨a, b, c, rfl⟩
theorem ds4 {ds : List Dt} (h : ds.length = 4) : ∃ a b c d, ds = [a, b, c, d] := by
  match ds, h with
  | [a, b, c, d], _ => exact ⟨a, b, c, d, rfl⟩
end Cp
/-! Cp9: len(set(xs)), xs a list or a tuple of ints; an item met twice. -/
namespace Cp
open PySem PySem.Spec PyProof.Rows L2

theorem nodup_le : ∀ {ks ns : List Int}, ks.Nodup → (∀ k ∈ ks, k ∈ ns) → ks.length ≤ ns.length
  | [], _, _, _ => Nat.zero_le _
  | k :: ks, ns, hn, hs => by
    rw [List.nodup_cons] at hn
    have hk : k ∈ ns := hs k List.mem_cons_self
    have ih := nodup_le (ks := ks) (ns := ns.erase k) hn.2 fun z hz => (List.mem_erase_of_ne fun e => hn.1 (by rw [← e]; exact hz)).mpr (hs z (List.mem_cons_of_mem _ hz))
    have hl := List.length_erase_of_mem hk
    have hp : 0 < ns.length := List.length_pos_of_mem hk
    rw [List.length_cons]
    omega
theorem distinct_iff : ∀ {ks ns : List Int}, ks.Nodup → (∀ k, k ∈ ns ↔ k ∈ ks) → (ks.length = ns.length ↔ ns.Nodup) := fun {ks ns} hk hm => by
  constructor
  · intro hl
    have go : ∀ (ms : List Int), (∀ k ∈ ks, k ∈ ms) → ks.length = ms.length → ms.Nodup := by
      clear hl hm
      induction ks with
      | nil =>
        intro ms _ e
        have : ms = [] := List.length_eq_zero_iff.mp e.symm
        rw [this]
        exact List.nodup_nil
      | cons k r ih =>
        intro ms h e
        rw [List.nodup_cons] at hk
        have hkm : k ∈ ms := h k List.mem_cons_self
        have hsub : ∀ z ∈ r, z ∈ ms.erase k := fun z hz => (List.mem_erase_of_ne fun e => hk.1 (by rw [← e]; exact hz)).mpr (h z (List.mem_cons_of_mem _ hz))
        have hl := List.length_erase_of_mem hkm
        have hp : 0 < ms.length := List.length_pos_of_mem hkm
        rw [List.length_cons] at e
        have hn := ih hk.2 (ms.erase k) hsub (by omega)
        have hp2 : ms.Perm (k :: ms.erase k) := List.perm_cons_erase hkm
        rw [hp2.nodup_iff, List.nodup_cons]
        refine ⟨fun hin => ?_, hn⟩
        have h3 := nodup_le (ks := k :: r) (ns := ms.erase k) (List.nodup_cons.mpr hk) fun z hz => by
          rcases List.mem_cons.mp hz with q | q
          · rw [q]
            exact hin
          · exact hsub z q
        rw [List.length_cons] at h3
        omega
    exact go ns (fun k q => (hm k).mpr q) hl
  · intro hn
    exact Nat.le_antisymm (nodup_le hk fun k q => (hm k).mpr q) (nodup_le hn fun k q => (hm k).mp q)
theorem firstMet_ok (ns : List Int) : ∀ i, i ≤ ns.length → (firstMet (fun i => ns.getD i 0) i).Nodup ∧ ∀ k, k ∈ ns.take i ↔ k ∈ firstMet (fun i => ns.getD i 0) i
  | 0, _ => ⟨List.nodup_nil, fun k => Iff.rfl⟩
  | i + 1, hi => by
    obtain ⟨h1, h2⟩ := firstMet_ok ns i (Nat.le_of_lt hi)
    have hlt : i < ns.length := hi
    have e1 : ns.getD i 0 = ns[i] := by
      rw [List.getD_eq_getElem?_getD, List.getElem?_eq_getElem hlt] <;> rfl
    have e2 : ns.take (i + 1) = ns.take i ++ [ns[i]] := by
      rw [List.take_add_one, List.getElem?_eq_getElem hlt] <;> rfl
    rw [firstMet_succ, e2]
    show (if (firstMet (fun i => ns.getD i 0) i).any (· == ns.getD i 0) then firstMet (fun i => ns.getD i 0) i else firstMet (fun i => ns.getD i 0) i ++ [ns.getD i 0]).Nodup ∧ _
    show _ ∧ ∀ k, k ∈ ns.take i ++ [ns[i]] ↔ k ∈ (if (firstMet (fun i => ns.getD i 0) i).any (· == ns.getD i 0) then firstMet (fun i => ns.getD i 0) i else firstMet (fun i => ns.getD i 0) i ++ [ns.getD i 0])
    rw [e1]
    by_cases hx : ns[i] ∈ firstMet (fun i => ns.getD i 0) i
    · have ha : (firstMet (fun i => ns.getD i 0) i).any (· == ns[i]) = true := List.any_eq_true.mpr ⟨_, hx, beq_self_eq_true _⟩
      rw [if_pos ha]
      refine ⟨h1, fun k => ?_⟩
      rw [List.mem_append, h2 k, List.mem_singleton]
      exact ⟨fun q => q.elim id fun e => by rw [e]; exact hx, .inl⟩
    · have ha : ¬ (firstMet (fun i => ns.getD i 0) i).any (· == ns[i]) = true := fun q => by
        obtain ⟨y, hy, ey⟩ := List.any_eq_true.mp q
        rw [eq_of_beq ey] at hy
        exact hx hy
      rw [if_neg ha]
      refine ⟨List.nodup_append.mpr ⟨h1, by simp, fun a ha b hb e => ?_⟩, fun k => ?_⟩
      · rw [List.mem_singleton] at hb
        rw [e, hb] at ha
        exact hx ha
      · rw [List.mem_append, List.mem_append, h2 k]
theorem firstMet_len (ns : List Int) : (firstMet (fun i => ns.getD i 0) ns.length).length = ns.length ↔ ns.Nodup := by
  obtain ⟨h1, h2⟩ := firstMet_ok ns ns.length (Nat.le_refl _)
  rw [List.take_length] at h2
  exact distinct_iff h1 h2
theorem firstMet_le (ns : List Int) : (firstMet (fun i => ns.getD i 0) ns.length).length ≤ ns.length := by
  obtain ⟨h1, h2⟩ := firstMet_ok ns ns.length (Nat.le_refl _)
  rw [List.take_length] at h2
  exact nodup_le h1 fun k q => (h2 k).mpr q
theorem vals_ints : ∀ {ns : List Int} {us : List Value}, Vals (ns.map V.int) us → IntsAre us ns
  | [], _, .nil => .nil
  | n :: ns, _, .cons r t => by
    obtain ⟨k, rfl⟩ := r
    exact .cons n k (vals_ints t)
/-- len(set(e)) -/
def tLenS (K : PySem.W.Frag) (ta : TE) : TE := fun σ H Q => ta σ H fun x H1 => ∃ (l : Addr) (ns : List Int), x = .ref l ∧ (SqL K H1 l (ns.map V.int) ∨ SqT K H1 l (ns.map V.int)) ∧ ns.length ≤ 1000 ∧ ∀ c : Nat, (c = ns.length ↔ ns.Nodup) → Q (.int (c : Int)) H1
theorem pe_lenS {X : Cx} {a : Expr} {ta : TE} {p p2 q pos : Pos} (hm : X.mg "len" = none) (hm2 : X.mg "set" = none) (ha : PE X a ta) (hg : Gl X "len" := by rfl) (hg2 : Gl X "set" := by rfl) (hc : X.calm = true := by rfl)
    (na : starEach [a] X.env = (false, eval a X.env) :: starEach [] X.env := by rfl) : PE X (.Call (.Name "len" p) [.Call (.Name "set" p2) [a] [] q] [] pos) (tLenS X.K ta) := by
  refine ⟨fun pins s σ H Q I h => ?_⟩
  refine Call_ (ld_blt I hg hm PySem.boot_len ?_)
  refine PyProof.Rows.callWith_builtin1 (PyProof.Rows.args_cons ?_ rfl) rfl rfl
  refine Call_ (ld_blt I hg2 hm2 PyProof.Rows.boot_set ?_)
  refine PyProof.Rows.callWith_type1 (PyProof.Rows.args_cons (thn (ha.run pins s σ H _ I h) fun v s1 ⟨x, H1, I1, r1, q1⟩ => PyProof.Rows.args_nil ?_) na) na rfl
  obtain ⟨l, ns, rfl, hq, hl, q1⟩ := q1
  cases r1
  rcases hq with hq | hq
  · obtain ⟨its, r, pl, hz⟩ := I1.list hq
    have hlen : its.toArray.size = ns.length := by rw [List.size_toArray, ← r.length, List.length_map]
    refine call_set_list (I1.ok.hd hc) pl.isList (ns := ns) (by simpa using vals_ints r) (by rw [hlen]; unfold scanBound; omega) fun h' tk hS hk => ?_
    refine PyProof.Rows.args_nil ?_
    rw [hlen] at hS
    obtain ⟨o, es, ep, t, ho, hex, hd, _, _, _, hf, hn⟩ := hS
    have I2 : Inv X pins σ H1 { s1 with heap := h', toks := tk } := I1.kept fun b o e => hk b o (Heap.lt_size e) e
    have hle := firstMet_le ns
    exact call_len_set ho hex hd hf (by rw [hn] <;> omega) ⟨.int es.size, H1, I2.tok _, ⟨_, rfl⟩, q1 _ (by rw [hn]; exact firstMet_len ns)⟩
  · obtain ⟨its, r, pl, hz⟩ := I1.tuple hq
    refine call_set_tupI ns (I1.ok.hd hc) pl (by simpa using vals_ints r) (by unfold scanBound; omega) fun h' tk c hS hcl hk => ?_
    refine PyProof.Rows.args_nil ?_
    obtain ⟨o, es, ep, t, ho, hex, hd, hgd, hnd, hme, hsc, hf, hn, _⟩ := hS
    have I2 : Inv X pins σ H1 { s1 with heap := h', toks := tk } := I1.kept hk
    refine call_len_set ho hex hd hf (by rw [hn]; omega) ⟨.int es.size, H1, I2.tok _, ⟨_, rfl⟩, q1 _ ?_⟩
    have z := distinct_iff (ns := ns) hnd fun k => ⟨fun q => (hme k).mp (decide_eq_true q), fun q => of_decide_eq_true ((hme k).mpr q)⟩
    rw [List.length_map, Array.length_toList] at z
    exact z
section
variable {B : Cs} {Γ : Env} {Φ : Dt → Env → Prop} {ta : TE}
theorem ev_lenS (h : Ev B ta Γ fun d Γ1 => ∃ ns : List Int, SeqD d (ns.map .int) ∧ ns.length ≤ 1000 ∧ ∀ c : Nat, (c = ns.length ↔ ns.Nodup) → Φ (.int (c : Int)) Γ1) : Ev B (tLenS B.K ta) Γ Φ := fun gy hy w G H σ S Q k =>
  h gy hy w G H σ S _ fun v d Γ1 G1 H1 ⟨ns, q, hl, hp⟩ s1 S1 D1 => by
    obtain ⟨a, xs, e, h1, h2⟩ := q.at S1.gh D1
    refine ⟨a, ns, e, by rw [← DaL.ofInts h2]; exact h1, hl, fun c hc => k _ _ Γ1 G1 H1 (hp c hc) s1 S1 rfl⟩
end
end Cp
namespace Cp
open PySem PySem.Spec PyProof.Rows L2
/-! ### a list or a tuple, walked -/
def iSeq (K : PySem.W.Frag) (tl : TE) : TI := fun σ H R => tl σ H fun x H1 => ∃ a, x = .ref a ∧ (((∃ xs, SqL K H1 a xs) ∧ R (Itl K a) H1) ∨ ((∃ xs, SqT K H1 a xs) ∧ R (Itt K a) H1))
theorem pi_seq {X : Cx} {tg l : Expr} {tl : TE} (hl : PE X l tl) : PI X tg l (iSeq X.K tl) := by
  refine ⟨fun pins s σ H R I h => ?_⟩
  refine thn (hl.run pins s σ H _ I h) fun v s1 ⟨x, H1, J, r1, q1⟩ => ?_
  obtain ⟨a, e, c⟩ := q1
  subst e
  cases r1
  have fresh : ∀ b ∈ [s1.heap.objs.size], b = s1.heap.objs.size := fun b hb => List.mem_singleton.mp hb
  rcases c with ⟨⟨xs, hq⟩, q⟩ | ⟨⟨xs, hq⟩, q⟩
  · obtain ⟨us, rv, pl, hz⟩ := J.list hq
    refine wpAny_pyIter_list pl.isList ⟨s1.heap.objs.size, [s1.heap.objs.size], _, _, H1, rfl, J.kept (t' := s1.toks) fun b o e => Heap.get?_push_of_some _ e, turn_list a _, ⟨_, Heap.get?_push_size _ rfl, rfl, rfl⟩, fun b hb => ?_, q⟩
    rw [fresh b hb]
    exact J.fpOk (Nat.le_refl _) (J.hok.fresh (Nat.le_refl _))
  · obtain ⟨us, rv, pl, hz⟩ := J.tuple hq
    refine wpAny_pyIter_tuple (show s1.heap.IsTuple a us.toArray from pl) ⟨s1.heap.objs.size, [s1.heap.objs.size], _, _, H1, rfl, J.kept (t' := s1.toks) fun b o e => Heap.get?_push_of_some _ e, turn_tuple a _, ⟨_, Heap.get?_push_size _ rfl, rfl, rfl⟩, fun b hb => ?_, q⟩
    rw [fresh b hb]
    exact J.fpOk (Nat.le_refl _) (J.hok.fresh (Nat.le_refl _))
section
variable {B : Cs} {Γ : Env} {Φ : Dt → Env → Prop} {Θ : List Dt → Env → Prop} {Ψ : Bool → Env → Prop} {ta te tl : TE} {tt : TT} {wi : TI} {g : TG} {js vs : List Nat} {Λ : Nat → (Nat → Dt) → Env → Prop}
theorem src_seq (h : Ev B tl Γ fun d Γ1 => ∃ ds, SeqD d ds ∧ Λ ds.length (itemOf ds) Γ1) : Src B (iSeq B.K tl) Γ Λ := fun gy hy w G H σ S R k =>
  h gy hy w G H σ S _ fun v d Γ1 G1 H1 ⟨ds, q, hp⟩ s1 S1 D1 => by
    obtain ⟨a, xs, e, c, D⟩ := q.at (Same.refl G1) D1
    refine ⟨a, e, ?_⟩
    rcases c with c | c
    · refine .inl ⟨⟨xs, Same.seq S1.gh c⟩, k _ _ _ Γ1 G1 H1 hp s1 S1 fun i G2 H2 s2 s3 => ⟨fun hi => ?_, fun hi => ⟨xs, Same.seq (s2.trans s3) c, by rw [DaL.len D]; exact hi⟩⟩⟩
      obtain ⟨u, q1, q2⟩ := DaL.get D (itemOf_get hi)
      refine ⟨⟨xs, u, Same.seq (s2.trans s3) c, q1⟩, fun x H3 ⟨e1, e2⟩ => ?_⟩
      have e3 := e2 xs (Same.seq (s2.trans s3) c)
      rw [q1] at e3
      cases e3
      subst e1
      exact ⟨G2, Ext.rfl' s3, Da.up s2 _ q2⟩
    · refine .inr ⟨⟨xs, Same.tup S1.gh c⟩, k _ _ _ Γ1 G1 H1 hp s1 S1 fun i G2 H2 s2 s3 => ⟨fun hi => ?_, fun hi => ⟨xs, Same.tup (s2.trans s3) c, by rw [DaL.len D]; exact hi⟩⟩⟩
      obtain ⟨u, q1, q2⟩ := DaL.get D (itemOf_get hi)
      refine ⟨⟨xs, u, Same.tup (s2.trans s3) c, q1⟩, fun x H3 ⟨e1, e2⟩ => ?_⟩
      have e3 := e2 xs (Same.tup (s2.trans s3) c)
      rw [q1] at e3
      cases e3
      subst e1
      exact ⟨G2, Ext.rfl' s3, Da.up s2 _ q2⟩
/-- a comprehension as a map and a filter -/
theorem en_lcF (hj : ∀ j ∈ js, j ∈ vs) (h : Src B wi Γ fun n item Γ1 => n ≤ 100000 ∧ noOwn vs Γ1 = true ∧ ∃ f : Nat → Option Dt,
    (∀ i, i < n → Tg B.K g js (item i) (wipeE Γ1 vs) fun Γ3 => EvT B tt Γ3 fun c Γ4 => if c = true then Ev B te Γ4 fun y Γ5 => wipeE Γ5 vs = wipeE Γ1 vs ∧ f i = some y else wipeE Γ4 vs = wipeE Γ1 vs ∧ f i = none) ∧
    Θ ((List.range n).filterMap f) Γ1) : EvN B (tLc wi g tt te vs) Γ Θ :=
  en_lc hj fun gy hy w G H σ S R k => h gy hy w G H σ S R fun J n item Γ' G' H' ⟨hn, hno, f, hs, hp⟩ => k J n item Γ' G' H' ⟨hn, hno, fun i acc => acc = (List.range i).filterMap f, rfl, fun i acc hi e => by
    subst e
    refine fun b hb G H σ v Q S D k => hs i hi b hb G H σ v Q S D fun Γ3 σ3 h3 => k Γ3 σ3 (EvT.imp h3 fun c Γ4 h4 => ?_)
    have e2 : (List.range (i + 1)).filterMap f = (List.range i).filterMap f ++ (match f i with | some y => [y] | none => []) := by
      rw [List.range_succ, List.filterMap_append]
      cases hf : f i with
      | none => rw [List.filterMap_cons_none hf]; rfl
      | some y => rw [List.filterMap_cons_some hf]; rfl
    cases c with
    | true =>
      have h5 : Ev B te Γ4 fun y Γ5 => wipeE Γ5 vs = wipeE Γ' vs ∧ f i = some y := h4
      show Ev B te Γ4 _
      refine Ev.imp h5 fun y Γ5 ⟨z1, z2⟩ => ⟨z1, ?_⟩
      show _ = (List.range (i + 1)).filterMap f
      rw [e2, z2]
    | false =>
      have h5 : wipeE Γ4 vs = wipeE Γ' vs ∧ f i = none := h4
      show wipeE Γ4 vs = wipeE Γ' vs ∧ _
      refine ⟨h5.1, ?_⟩
      show _ = (List.range (i + 1)).filterMap f
      rw [e2, h5.2, List.append_nil], fun acc e => by subst e; exact hp⟩
end
theorem range_items {β : Type} (g : Dt → Option β) : ∀ (ds : List Dt), (List.range ds.length).filterMap (fun i => g (itemOf ds i)) = ds.filterMap g := fun ds => by
  have e : (List.range ds.length).map (itemOf ds) = ds := by
    refine List.ext_getElem? fun i => ?_
    rw [List.getElem?_map]
    by_cases h : i < ds.length
    · rw [List.getElem?_range h, itemOf_get h]
      rfl
    · rw [List.getElem?_eq_none (by rw [List.length_range]; omega), List.getElem?_eq_none (by omega)]
      rfl
  have e2 : ds.filterMap g = ((List.range ds.length).map (itemOf ds)).filterMap g := by rw [e]
  rw [e2, List.filterMap_map]
  first | done | rfl
theorem range_items' {β : Type} (g : Dt → β) (ds : List Dt) : (List.range ds.length).filterMap (fun i => some (g (itemOf ds i))) = ds.map g := by
  rw [range_items (fun d => some (g d)), List.filterMap_eq_map']
  first | done | rfl
theorem range_bls (p : Dt → Bool) (l : List Dt) : (List.range l.length).filterMap (fun i => some (Dt.bl (p (itemOf l i)))) = (l.map p).map Dt.bl := by
  rw [range_items' (fun d => Dt.bl (p d)), List.map_map]
  rfl
theorem range_ints (p : Dt → Int) (l : List Dt) : (List.range l.length).filterMap (fun i => some (Dt.int (p (itemOf l i)))) = (l.map p).map Dt.int := by
  rw [range_items' (fun d => Dt.int (p d)), List.map_map]
  rfl
theorem range_map {β : Type} (p : Nat → β) (n : Nat) : (List.range n).filterMap (fun i => some (p i)) = (List.range n).map p := by
  rw [List.filterMap_eq_map']
  first | done | rfl
theorem range_bl (p : Nat → Bool) (n : Nat) : (List.range n).filterMap (fun i => some (Dt.bl (p i))) = ((List.range n).map p).map Dt.bl := by
  rw [range_map (fun i => Dt.bl (p i)), List.map_map]
  rfl
theorem range_int (p : Nat → Int) (n : Nat) : (List.range n).filterMap (fun i => some (Dt.int (p i))) = ((List.range n).map p).map Dt.int := by
  rw [range_map (fun i => Dt.int (p i)), List.map_map]
  rfl
/-! ### data that are lists or tuples -/
def Dt.items : Dt → List Dt
  | .lst l => l
  | .tup l => l
  | .sq l => l
  | .sqt l => l
  | _ => []
def Dt.toI : Dt → Int
  | .int i => i
  | _ => 0
theorem SeqD.of : ∀ {d : Dt}, (d.isLst || d.isTup) = true → SeqD d d.items
  | .lst l, _ => .lst l
  | .tup l, _ => .tup l
  | .sq l, _ => .sq l
  | .sqt l, _ => .sqt l
theorem SeqD.items {d : Dt} {l : List Dt} (h : SeqD d l) : d.items = l ∧ (d.isLst || d.isTup) = true := by
  cases h <;> exact ⟨rfl, rfl⟩
theorem all_map_id {α : Type} (f : α → Bool) (l : List α) : (l.map f).all id = l.all f := by
  rw [List.all_map]
  rfl
theorem getD_map {ns : List Int} {i : Nat} (h : i < ns.length) : (ns.map Dt.int)[i]? = some (.int (ns.getD i 0)) := by
  rw [List.getElem?_map, List.getD_eq_getElem?_getD, List.getElem?_eq_getElem h]
  rfl
theorem atI_ok {α : Type} {l : List α} {i : Nat} (h : i < l.length) : atI l (i : Int) = l[i]? := by
  unfold atI ixN
  rw [if_pos (by omega), if_pos (by omega)]
  simp
/-! ### rules by the written part K -/
section
variable {X : Cx} {K : PySem.W.Frag}
theorem kIx (e : X.K = K) : IxR X (rIx K) := e ▸ ix_seq
theorem kLen (e : X.K = K) : CallR X (.builtin "len") (fun xs H Q => ∃ x n, xs = [x] ∧ LenV K x H n ∧ Q (.int n) H) := e ▸ call_len
theorem kIn (e : X.K = K) : OpR X (compareOp .In) (rIn K false) := e ▸ op_in_seq
theorem kNin (e : X.K = K) : OpR X (compareOp .NotIn) (rIn K true) := e ▸ op_notIn_seq
theorem kSum (e : X.K = K) (c : X.calm = true) : CallR X (.builtin "sum") (rSum K) := e ▸ cr_sum c
theorem kAll (e : X.K = K) (c : X.calm = true) : CallR X (.builtin "all") (rAll K) := e ▸ cr_all c
theorem kAny (e : X.K = K) (c : X.calm = true) : CallR X (.builtin "any") (rAny K) := e ▸ cr_any c
theorem kMax (e : X.K = K) (c : X.calm = true) : CallR X (.builtin "max") (rMax K) := e ▸ cr_max c
theorem kMin (e : X.K = K) (c : X.calm = true) : CallR X (.builtin "min") (rMin K) := e ▸ cr_min c
theorem kSorted (e : X.K = K) : CallR X (.builtin "sorted") (rSorted K) := e ▸ cr_sorted
theorem kIsi (e : X.K = K) : CallR X (.builtin "isinstance") (rIsi K) := e ▸ call_isi
theorem kIsiT (e : X.K = K) : CallR X (.builtin "isinstance") (rIsiT K) := e ▸ call_isiT
theorem kList (e : X.K = K) : CallR X (.type "list") (fun xs H Q => ∃ p ys, xs = [.ref p] ∧ (SqL K H p ys ∨ SqT K H p ys) ∧ ∀ l, H l = none → Q (.ref l) (upd H l (.lst ys))) := e ▸ call_list_of
theorem kTuple (e : X.K = K) : CallR X (.type "tuple") (fun xs H Q => ∃ p ys, xs = [.ref p] ∧ ((SqL K H p ys ∧ ∀ l, H l = none → Q (.ref l) (upd H l (.tup ys))) ∨ (SqT K H p ys ∧ Q (.ref p) H))) := e ▸ call_tuple_of
theorem kSeq {tg l : Expr} {tl : TE} (e : X.K = K) (hl : PE X l tl) : PI X tg l (iSeq K tl) := e ▸ pi_seq hl
theorem kTup {es : List Expr} {k : Nat} {t : TGs} {n : Nat} (e : X.K = K) (hc : X.calm = true) (h : PGs X es t) (hn : (assignEach es X.env).length = n := by rfl) (hst : (assignEach es X.env).findIdx? (·.1) = none := by rfl) : PG X (.Tuple es k pos) (gTup K n t) := e ▸ pg_tup hc h (hn := hn) (hst := hst)
theorem kSl (e : X.K = K) : SlR X (rSlL K) := e ▸ sl_list
end
end Cp
/-! Cp10: a dict of the written part with ints as keys, walked: its keys, its items. -/
namespace Cp
open PySem PySem.Spec PyProof.Rows L2

/-- at d stands, written, a dict of these keys and values -/
structure WDict (K : PySem.W.Frag) (d : Addr) (kvs : List (Int × V)) (es : Array DictEntry) (ep : Nat) (o : Obj) : Prop where
  sys : (d == sysModules) = false
  lk : K.lookup d = some o
  ex : o.ExactDict
  dt : o.data = .dict es ep
  sz : es.size = kvs.length
  it : ∀ (i : Nat) (k : Int) (v : V), kvs[i]? = some (k, v) → ∃ en : DictEntry, es[i]? = some en ∧ RelV (.int k) en.key ∧ RelV v en.val
def Itwk (kvs : List (Int × V)) : It := ⟨fun i _ => i < kvs.length, fun i H x H' => H' = H ∧ ∃ k v, kvs[i]? = some (k, v) ∧ x = .int k, fun i _ => kvs.length ≤ i⟩
def Itwi (kvs : List (Int × V)) : It := ⟨fun i _ => i < kvs.length, fun i H x H' => ∃ T k v, kvs[i]? = some (k, v) ∧ x = .ref T ∧ H T = none ∧ H' = upd H T (.tup [.int k, v]), fun i _ => kvs.length ≤ i⟩
section
variable {P : Program} {w : World} {K : PySem.W.Frag} {tg : Expr} {d : Addr} {kvs : List (Int × V)} {es : Array DictEntry} {ep : Nat} {o : Obj}
theorem turn_wk (D : WDict K d kvs es ep o) (it : Addr) : Turn P w K tg (Itwk kvs) [it] it (fun i h => h.IsKeyIter it d i es.size ep) where
  mem := List.mem_singleton.mpr rfl
  obj := fun i h st b hb => by
    obtain rfl : b = it := List.mem_singleton.mp hb
    obtain ⟨oi, e, c, dd⟩ := st
    exact ⟨oi, e, fun v z => by rw [dd] at z; cases z⟩
  keep := fun i h h' st k => st.at fun oi e => k it (List.mem_singleton.mpr rfl) oi e
  item := by
    intro X hP hw hK hc i pins s σ H E J hf st hg
    subst hP hw hK
    obtain ⟨f0, f1, f2, f3, f4, f5⟩ := hf it (List.mem_singleton.mpr rfl)
    have hi : i < kvs.length := hg
    obtain ⟨⟨k, v⟩, hkv⟩ : ∃ p, kvs[i]? = some p := ⟨kvs[i], List.getElem?_eq_getElem hi⟩
    obtain ⟨en, he, rk, rv⟩ := D.it i k v hkv
    refine next_key_item st (J.kIn _ _ D.lk) D.dt rfl he fun h' st' sb => ?_
    have J1 : Inv X pins σ H { s with heap := h' } := J.turned (t' := s.toks) (fun b ob hb e => (sb.2 b hb).trans e) f0 f1 f3 f4 f5
    obtain ⟨oi, e, c, dd⟩ := id st'
    exact ⟨en.key, rfl, go_of (s := { s with heap := h' }) e c dd (by decide) ⟨.int k, H, J1, rk, ⟨rfl, k, v, hkv, rfl⟩, st', fun b hb => (hf b hb).1⟩⟩
  done := by
    intro X hP hw hK hc i pins s σ H E J hf st hg
    subst hP hw hK
    obtain ⟨f0, f1, f2, f3, f4, f5⟩ := hf it (List.mem_singleton.mpr rfl)
    have hi : kvs.length ≤ i := hg
    exact next_key_end (J.ok.hd hc) st (J.kIn _ _ D.lk) D.dt rfl (by rw [D.sz]; exact hi) fun h' eb => ⟨rfl, J.turned (t' := s.toks) (fun b ob hb e => eb b ob hb e) f0 f1 f3 f4 f5⟩
  self := fun A i s Q E st h => wpAny_pyIter_keyiter st h
theorem WDict.raw (D : WDict K d kvs es ep o) {h : Heap} (X : K.In h) : DT.Raw h d es ep := ⟨o, X _ _ D.lk, D.ex, D.dt⟩
theorem turn_wi {elts : List Expr} {kk : Nat} {tpos : Pos} (D : WDict K d kvs es ep o) (it : Addr) :
    Turn P w K (.Tuple elts kk tpos) (Itwi kvs) [it] it (fun i h => ∃ ok ov, IsItemIter h it d i es.size ep ok ov) where
  mem := List.mem_singleton.mpr rfl
  obj := fun i h st b hb => by
    obtain rfl : b = it := List.mem_singleton.mp hb
    obtain ⟨ok, ov, e⟩ := st
    exact ⟨_, e, fun v z => nomatch z⟩
  keep := fun i h h' st k => let ⟨ok, ov, e⟩ := st; ⟨ok, ov, k it (List.mem_singleton.mpr rfl) _ e⟩
  item := by
    intro X hP hw hK hc i pins s σ H E J hf st hg
    subst hP hw hK
    have hi : i < kvs.length := hg
    obtain ⟨⟨k, v⟩, hkv⟩ : ∃ p, kvs[i]? = some p := ⟨kvs[i], List.getElem?_eq_getElem hi⟩
    obtain ⟨en, he, rk, rv⟩ := D.it i k v hkv
    have hie : i < es.size := by rw [D.sz]; exact hi
    have een : es[i] = en := by
      rw [Array.getElem?_eq_getElem hie] at he
      exact Option.some.inj he
    obtain ⟨ok, ov, ho⟩ := st
    have hlt : it < s.heap.objs.size := Heap.lt_size ho
    refine DT.nextI ho (D.raw J.kIn) hie fun h' ho' hT hz hk => ?_
    rw [een] at ho' hT
    refine ⟨_, rfl, wpAny_letOwnedTupleGo_items (s := { s with heap := h' }) ho' fun h'' he' sb => ?_⟩
    have hT2 : h''.get? s.heap.objs.size = some { cls := .type "tuple", data := .seq #[en.key, en.val] } := (sb.2 _ (Nat.ne_of_gt hlt)).trans hT
    have new : ObjOk X.prog X.w (upd H s.heap.objs.size (.tup [.int k, v])) h'' s.heap.objs.size (.tup [.int k, v]) :=
      ⟨by show 2 ≤ sizeLine; decide, [en.key, en.val], .cons rk (.cons rv .nil), ⟨_, hT2, rfl, _, rfl⟩⟩
    have J1 : Inv X pins σ (upd H s.heap.objs.size (.tup [.int k, v])) { s with heap := h'' } :=
      J.turnedNew (t' := s.toks) (ch := [it]) (fun b ob hb e => (sb.2 b (by simpa using hb)).trans (hk b ob (by simpa using hb) e)) hf (Nat.le_refl _) new
    refine ⟨.ref s.heap.objs.size, _, J1, rfl, ⟨_, k, v, hkv, rfl, J.hok.fresh (Nat.le_refl _), rfl⟩, ⟨en.key, en.val, he'⟩, fun b hb => ?_⟩
    obtain rfl : b = it := List.mem_singleton.mp hb
    rw [upd_ne (Nat.ne_of_lt hlt)]
    exact (hf b (List.mem_singleton.mpr rfl)).1
  done := by
    intro X hP hw hK hc i pins s σ H E J hf st hg
    subst hP hw hK
    obtain ⟨f0, f1, f2, f3, f4, f5⟩ := hf it (List.mem_singleton.mpr rfl)
    have hi : kvs.length ≤ i := hg
    obtain ⟨ok, ov, ho⟩ := st
    exact DT.endI (J.ok.hd hc) ho (D.raw J.kIn) (by rw [D.sz]; exact hi) fun h' eb => ⟨rfl, J.turned (t' := s.toks) (fun b ob hb e => eb b ob hb e) f0 f1 f3 f4 f5⟩
  self := fun A i s Q E st h => let ⟨_, _, e⟩ := st; PySem.W.kcp_self e h
end
section
variable {X : Cx} {tg e : Expr} {apos cpos pos : Pos} {d : Addr} {kvs : List (Int × V)} {es : Array DictEntry} {ep : Nat} {o : Obj} {x : Str}
/-- for k in D -/
def iWk (kvs : List (Int × V)) : TI := fun _ H R => R (Itwk kvs) H
theorem pi_wk (D : WDict X.K d kvs es ep o) (hm : X.mg x = some (.ref d)) (hg : Gl X x := by rfl) (hdb : (x == ("__debug__" : Str)) = false := by decide) : PI X tg (.Name x pos) (iWk kvs) := by
  refine ⟨fun pins s σ H R J h => ?_⟩
  refine ld_glob J hg hm ?_ hdb
  exact iter_keys D.sys (J.kIn _ _ D.lk) D.ex D.dt (pi_one (tk := s.toks) J _ (turn_wk D _) ⟨_, Heap.get?_push_size _ rfl, rfl, rfl⟩ h)
/-- for k, v in D.items() -/
def iWi (kvs : List (Int × V)) : TI := fun _ H R => R (Itwi kvs) H
theorem pi_wi {elts : List Expr} {kk : Nat} {tpos : Pos} (D : WDict X.K d kvs es ep o) (hm : X.mg x = some (.ref d)) (hg : Gl X x := by rfl) (hdb : (x == ("__debug__" : Str)) = false := by decide)
    (hbase : attributeBase (.Name x pos) "items" X.env (eval (.Name x pos) X.env) = eval (.Name x pos) X.env := by rfl) (hline : (apos.endLine == cpos.line) = true := by rfl) :
    PI X (.Tuple elts kk tpos) (.Call (.Attribute (.Name x pos) "items" apos) [] [] cpos) (iWi kvs) := by
  refine ⟨fun pins s σ H R J h => ?_⟩
  refine wpAny_Call_method (T := "dict") (id := "dict.items") hbase rfl hline F.plainAttrs_dict F.slot_dict_items F.type_dict_items (ld_glob J hg hm ?_ hdb)
  have rw0 := D.raw J.kIn
  refine ⟨rw0.typeIs, ?_, ?_⟩
  · intro a ea
    obtain rfl : d = a := Value.ref.inj ea
    exact ⟨o, J.kIn _ _ D.lk, D.ex.2.1⟩
  have J2 : Inv X pins σ H { s with heap := s.heap.push { cls := .type "dict_items", data := .fields #[.ref d] } } := J.kept (t' := s.toks) fun b ob q => Heap.get?_push_of_some _ q
  have fin : wpAny (model X.prog X.w) X.A (pyIter (.ref s.heap.objs.size)) (PIE X pins σ (.Tuple elts kk tpos) R) X.xe { s with heap := s.heap.push { cls := .type "dict_items", data := .fields #[.ref d] } } :=
    DT.iterI (es := es) (ep := ep) ⟨_, Heap.get?_push_size _ rfl, rfl, rfl⟩ (rw0.push _) (pi_one (tk := s.toks) J2 _ (turn_wi D _) ⟨.none, .none, Heap.get?_push_size _ rfl⟩ h)
  show wpAny _ _ (callWith cpos (.builtin "dict.items") [.ref d] [] []) _ X.xe s
  exact method_meetsIn F.slot_dict_items F.entry_dict_items rfl (PySem.evalArgs_none ⟨rfl, rw0.typeIs, F.args_dict_items_1 _, _, DT.meetsItems (es := es) (ep := ep) D.sys, ⟨rw0, fin⟩⟩)
end
/-! ### what is walked, as data -/
section
variable {B : Cs} {Γ : Env} {Λ : Nat → (Nat → Dt) → Env → Prop} {kvs : List (Int × V)}
/-- the values are data that nothing can change -/
def WVals (K : PySem.W.Frag) (kvs : List (Int × V)) (l : List (Int × Dt)) : Prop := kvs.length = l.length ∧ ∀ (i : Nat) k v, kvs[i]? = some (k, v) → ∃ d, l[i]? = some (k, d) ∧ ∀ G, Da K G v d
theorem src_wk (h : Λ kvs.length (fun i => .int ((kvs.map (·.1)).getD i 0)) Γ) : Src B (iWk kvs) Γ Λ := fun gy hy w G H σ S R k =>
  k _ _ _ Γ G H h (Same.refl G) S fun i G2 H2 s2 s3 => ⟨fun hi => ⟨hi, fun x H3 ⟨e1, kk, v, e2, e3⟩ => by
    subst e1 e3
    refine ⟨G2, Ext.rfl' s3, ?_⟩
    have z : (kvs.map (·.1)).getD i 0 = kk := by
      rw [List.getD_eq_getElem?_getD, List.getElem?_map, e2]
      rfl
    rw [z]
    rfl⟩, fun hi => hi⟩
theorem src_wi {l : List (Int × Dt)} (W : WVals B.K kvs l) (h : Λ l.length (fun i => .tup [.int ((l.map (·.1)).getD i 0), (l.map (·.2)).getD i .non]) Γ) : Src B (iWi kvs) Γ Λ := fun gy hy w G H σ S R k =>
  k _ _ _ Γ G H h (Same.refl G) S fun i G2 H2 s2 s3 => ⟨fun hi => ⟨by rw [← W.1] at hi; exact hi, fun x H3 ⟨T, kk, v, e2, e3, nT, e4⟩ => by
    subst e3 e4
    obtain ⟨d, q1, q2⟩ := W.2 i kk v e2
    have z1 : (l.map (·.1)).getD i 0 = kk := by
      rw [List.getD_eq_getElem?_getD, List.getElem?_map, q1]
      rfl
    have z2 : (l.map (·.2)).getD i .non = d := by
      rw [List.getD_eq_getElem?_getD, List.getElem?_map, q1]
      rfl
    have e := Ext.new (o := .tup [.int kk, v]) s3 nT
    refine ⟨upd G2 T (.tup [.int kk, v]), e, T, [.int kk, v], rfl, upd_same, .int kk, [v], rfl, ?_, v, [], rfl, ?_, rfl⟩
    · rw [z1]
      rfl
    · rw [z2]
      exact q2 _⟩, fun hi => by rw [← W.1] at hi; exact hi⟩
end
theorem WVals.keys {K : PySem.W.Frag} {kvs : List (Int × V)} {l : List (Int × Dt)} (W : WVals K kvs l) : kvs.map (·.1) = l.map (·.1) := by
  refine List.ext_getElem? fun i => ?_
  rw [List.getElem?_map, List.getElem?_map]
  cases h : kvs[i]? with
  | none =>
    have h1 : kvs.length ≤ i := List.getElem?_eq_none_iff.mp h
    rw [W.1] at h1
    rw [List.getElem?_eq_none_iff.mpr h1]
    rfl
  | some q =>
    obtain ⟨d, h1, _⟩ := W.2 i q.1 q.2 h
    rw [h1]
    rfl
end Cp
/-! Cp11: name = {k: v for ..}. -/
namespace Cp
open PySem PySem.Spec PyProof.Rows L2
section
variable {X : Cx}
theorem sw_trueD {kx vx : Expr} {gs : List Comprehension} {scope : Scope} {pos py : Pos} {y : Str} {l : Nat} {env : PySem.Env} (hk : env.scope.kind = .function) (hy : env.scope.names.lookup y = some .local) (hl : (py.line == pos.line) = true)
    (ha : (scope.names.any fun (n, k) => n == y && (k == .local || k == .cell)) = false) : swapsWith (.DictComp kx vx gs scope pos) (some (.Name y py)) l env = pure true := by
  have ky : env.kindOf y = some .local := hy
  have hb : env.blockKind = .function := by unfold PySem.Env.blockKind; rw [hk]; rfl
  unfold swapsWith
  simp only [hb, ky, ha, Expr.pos, hl]
  rfl
theorem ps_setDc {i : Nat} {y : Str} {py : Pos} {kx vx tg iter : Expr} {ifs : List Expr} {scope : Scope} {own : List (Str × Nat)} {pos spos : Pos} {wi : TI} {g : TG} {tt : TT} {tk tv : TE} (hc : X.calm = true) (hN : X.N.Nodup) (hy : X.N[i]? = some y) (hyl : X.env.scope.names.lookup y = some .local)
    (hsw : swapsWith (.DictComp kx vx [⟨tg, iter, ifs, 0⟩] scope pos) (some (.Name y py)) spos.line X.env = pure true) (hi : PI X tg iter wi) (ok : BlkOk X.N X.env.scope scope own)
    (hg : ∀ (s : Shared) (H : Hp) (C : Addr) (cl : List (Str × Addr)) (fp : List Addr), PG (X.blk s H scope (compEnvC scope cl C X.env) fp) tg g) (ht : ∀ (s : Shared) (H : Hp) (C : Addr) (cl : List (Str × Addr)) (fp : List Addr), PTs (X.blk s H scope (compEnvC scope cl C X.env) fp) ifs tt)
    (hk : ∀ (s : Shared) (H : Hp) (C : Addr) (cl : List (Str × Addr)) (fp : List Addr), PE (X.blk s H scope (compEnvC scope cl C X.env) fp) kx tk)
    (he : ∀ (s : Shared) (H : Hp) (C : Addr) (cl : List (Str × Addr)) (fp : List Addr), PE (X.blk s H scope (compEnvC scope cl C X.env) fp) vx tv) (hs : ∀ x, foldedSetIterable iter X.env x = pure x := by intro _; rfl) :
    PS X (.Assign [.Name y py] (.DictComp kx vx [⟨tg, iter, ifs, 0⟩] scope pos) spos) (tAsg (tDc wi g tt tk tv (own.map (·.2))) (gName i)) := by
  refine ⟨fun pins s σ H D J h => ?_⟩
  rw [exec_Assign_Name_used _ _ _ _ hsw]
  refine wpAny_bind (wpAny_standAt (wpAny_bind ?_))
  show wpAny _ X.A (do let _ ← comprehension (.DictComp kx vx [⟨tg, iter, ifs, 0⟩] scope pos) scope X.env (firstIterPos [⟨tg, iter, ifs, 0⟩] pos) newDict false (eval iter X.env) (some (assign (.Name y py) X.env))) _ _ s
  have h : tDc wi g tt tk tv (own.map (·.2)) σ H (fun x H1 => gName i x σ H1 D.nx) := h
  refine wpAny_bind (thn (dc_core (Qf := fun _ s' => SP X pins D .next s') hc hN J hi ok hg ht hk he hs h fun L C s' m H' J' q hn f => ?_) fun _ s' hq => wpAny_pure (wpAny_pure hq))
  show wpAny _ _ (assign (.Name y py) X.env (.ref L)) _ _ _
  refine wpAny_assign_Name (store_ok2 (v := V.ref L) J' hN hy (.inl hyl) rfl (fun s2 J2 ⟨a, sb, ha⟩ => ?_) (.inr hyl))
  obtain ⟨f0, f1, f2, f3, f4, f5⟩ := f
  have haC : C ≠ a := by
    rcases ha with z | z
    · rw [z]; exact f1
    · exact fun e => f4 y a z e.symm
  exact ⟨m, hn.sameBut sb haC, fun h3 sb3 => ⟨_, H', J2.turned (t' := s2.toks) (fun b o hb e => (sb3.2 b hb).trans e) f0 f1 f3 f4 f5, q⟩⟩
end
theorem putK_new {κ : Type} [DecidableEq κ] {kvs : List (κ × V)} {k : κ} {v : V} (h : ∀ q ∈ kvs, q.1 ≠ k) : putK kvs k v = kvs ++ [(k, v)] := by
  unfold putK
  rw [if_neg]
  intro z
  obtain ⟨q, h1, h2⟩ := List.any_eq_true.mp z
  exact h q h1 (of_decide_eq_true h2)
theorem DaK.keys {K : PySem.W.Frag} {G : Hp} : ∀ {l : List (Key × Dt)} {xs : List (Key × V)}, DaK K G xs l → xs.map (·.1) = l.map (·.1)
  | [], _, h => by cases h; rfl
  | (k, d) :: l, _, ⟨v, vs, e, _, h⟩ => by rw [e, List.map_cons, List.map_cons, DaK.keys h]
section
variable {B : Cs} {Γ : Env} {A : AE} {tk tv : TE} {g : TG} {js vs : List Nat}
theorem sv_asgDc {wi : TI} {j0 : Nat} (hj : ∀ j ∈ js, j ∈ vs) (h : Src B wi Γ fun n item Γ1 => n ≤ 100000 ∧ noOwn vs Γ1 = true ∧ ∃ (kf : Nat → Int) (vf : Nat → Dt), (∀ i j, i < n → j < n → kf i = kf j → i = j) ∧
    (∀ i, i < n → Tg B.K g js (item i) (wipeE Γ1 vs) fun Γ3 => Ev B tk Γ3 fun d Γ4 => d = .int (kf i) ∧ Ev B tv Γ4 fun y Γ5 => wipeE Γ5 vs = wipeE Γ1 vs ∧ y = vf i) ∧
    j0 < Γ1.length ∧ A.nx (Γ1.set j0 (.k ((List.range n).map fun i => (Sum.inl (kf i), vf i))))) : Sv B (tAsg (tDc wi g tYes tk tv vs) (gName j0)) Γ A := fun gy hy w G H σ DD S k1 _ _ _ =>
  h gy hy w G H σ S _ fun J n item Γ1 G1 H1 ⟨hn, hno, kf, vf, hinj, hs, hj0, he⟩ s1 S1 jj => fun D nD => by
    have neD : ∀ (j : Nat) β p, Γ1[j]? = some β → β.own = true → σ[j]? = some (some (.ref p)) → p ≠ D := fun j β p q1 q2 q3 z => own_fresh S1 nD j β q1 q2 (by rw [q3, z])
    have hyD : hy.h D = none := S1.hx.free nD
    refine ⟨fun i m H' => m = n - i ∧ i ≤ n ∧ ∃ accV G', Same G1 G' ∧ G' D = none ∧ H' D = some (.dK accV) ∧ DaK B.K G' accV ((List.range i).map fun i => (Sum.inl (kf i), vf i)) ∧ Sl (B.b gy hy) G' H' σ Γ1,
      ⟨n, by omega, Nat.zero_le _, [], G1, Same.refl _, S1.gh.free nD, upd_same, rfl, S1.ext (Ext.newH S1.gh nD)⟩, ?_⟩
    rintro i m H' ⟨rfl, hi, accV, G', s', gD, hD, dD, S'⟩
    by_cases hlt : i < n
    · obtain ⟨j1, j2⟩ := (jj i G' H' s' S'.gh).1 hlt
      refine .inr ⟨j1, fun H2 => ∃ accV G2, Same G1 G2 ∧ G2 D = none ∧ H2 D = some (.dK accV) ∧ DaK B.K G2 accV ((List.range (i + 1)).map fun i => (Sum.inl (kf i), vf i)) ∧ Sl (B.b gy hy) G2 H2 σ Γ1, fun H2 q => ⟨n - (i + 1), by omega, rfl, hlt, q⟩, fun x H3 y => ?_⟩
      obtain ⟨G3, e3, D3⟩ := j2 x H3 y
      have S3 := S'.ext e3
      have g3D : G3 D = none := e3.none gD hD
      have h3D : H3 D = some (.dK accV) := e3.h _ _ hD
      let hy2 : Gh := ⟨upd hy.h D (.dK accV), fun c => hy.p c ∨ c = D, fun c q => by
        by_cases hc : c = D
        · rw [hc, upd_same]
          exact fun z => nomatch z
        · rw [upd_ne hc]
          exact hy.q c (q.resolve_right hc)⟩
      have hx2 : Same hy.h hy2.h := same_new hyD
      have T3 : Sl (B.b gy hy2) G3 H3 σ Γ1 := Sl.base (b := B.b gy hy) (Gy := gy) (Hy := hy2) S3 S3.gx (fun c u q => by
        by_cases hc : c = D
        · subst hc
          have q' : upd hy.h c (.dK accV) c = some u := q
          rw [upd_same] at q'
          rw [h3D]
          exact q'
        · have q' : upd hy.h D (.dK accV) c = some u := q
          rw [upd_ne hc] at q'
          exact S3.hx c u q') (fun c q => q.elim (S3.px c) fun z => by rw [z]; exact g3D) fun j β p q1 q2 q3 => by
            show upd hy.h D (.dK accV) p = none
            rw [upd_ne (neD j β p q1 q2 q3)]
            exact (S3.ownAt q1 q2 q3).2.1
      have w2 : Wy B gy hy2 := ⟨w.wok, w.gy, w.hy.trans hx2, fun c q => .inl (w.hp c q)⟩
      refine hs i hlt (B.b gy hy2) rfl G3 H3 (L2.wipe σ vs) x _ (T3.wipe vs) D3 fun Γ3 σ3 h3 S4 w4 => ?_
      refine ⟨(w4 vs hj).trans (wipe_wipe σ vs), ?_⟩
      unfold tYes
      dsimp only
      rw [if_pos rfl]
      refine h3 gy hy2 w2 G3 H3 σ3 S4 _ fun v1 d1 Γ4 G4 H4 ⟨ed, h4⟩ s4 S5 D5 => ?_
      subst ed
      have ev1 : v1 = .int (kf i) := D5
      subst ev1
      refine h4 gy hy2 w2 G4 H4 σ3 S5 _ fun v d Γ5 G5 H5 ⟨e5, ev⟩ s5 S6 D6 => ?_
      subst ev
      have a1 : H5 D = some (.dK accV) := S6.hx D _ upd_same
      have a2 : G5 D = none := S6.px D (.inr rfl)
      have S7 : Sl (B.b gy hy) G5 H5 σ Γ1 :=
        Sl.unblock (b := B.b gy hy) (G := G3) (Hy := hy2) (fun i α q1 q2 => by
          have z := S3.sl i α q1
          exact z.move (Same.refl _) fun p o o1 _ _ _ => by rw [q2] at o1; cases o1) (s4.trans s5) S3.len S6 ((w4 vs hj).trans (wipe_wipe σ vs)) e5 hno hx2 fun c q => .inl q
      have new : ∀ q ∈ accV, q.1 ≠ Sum.inl (kf i) := fun q hq e => by
        have z : q.1 ∈ accV.map (·.1) := List.mem_map.mpr ⟨q, hq, rfl⟩
        rw [DaK.keys dD, List.map_map] at z
        obtain ⟨j, h1, h2⟩ := List.mem_map.mp z
        rw [List.mem_range] at h1
        have h3 : (Sum.inl (kf j) : Key) = Sum.inl (kf i) := h2.trans e
        have h4 := hinj j i (by omega) hlt (Sum.inl.inj h3)
        omega
      have hlen : accV.length = i := by
        have z := congrArg List.length (DaK.keys dD)
        rw [List.length_map, List.length_map, List.length_map, List.length_range] at z
        exact z
      refine ⟨accV, Sum.inl (kf i), rfl, a1, by rw [hlen]; exact Nat.lt_of_lt_of_le hlt (Nat.le_trans hn (by decide)), ?_⟩
      rw [putK_new new]
      refine ⟨accV ++ [(Sum.inl (kf i), v)], G5, ((s'.trans e3.g).trans s4).trans s5, a2, upd_same, ?_, ?_⟩
      · rw [List.range_succ, List.map_append]
        exact DaK.snoc D6 (DaK.up ((e3.g.trans s4).trans s5) _ dD)
      · refine ⟨S7.gx, fun c u q => ?_, S7.px, fun c n => ?_, fun c u q => ?_, S7.ff, S7.len, fun j β q => (S7.sl j β q).move (Same.refl _) fun p o o1 o2 o3 o4 => ⟨o3, ?_⟩, S7.nd⟩
        · rw [upd_ne (ne_of_none q hyD)]
          exact S7.hx c u q
        · by_cases hc : c = D
          · rw [hc, upd_same]
            exact fun z => nomatch z
          · rw [upd_ne hc]
            exact S7.h1 c n
        · rw [upd_ne (ne_of_none q a2)]
          exact S7.gh c u q
        · rw [upd_ne (neD j β p q o1 o2)]
          exact o4
    · have e : i = n := by omega
      subst e
      refine .inl ⟨(jj i G' H' s' S'.gh).2 (Nat.le_refl _), ?_⟩
      exact k1 _ G' H' _ he (s1.trans s') (S'.setOwn (p := D) (α := .k _) ⟨D, accV, rfl, gD, h0_fresh S1 nD, hyD, hD, dD⟩ hj0 (own_fresh S1 nD))
end
end Cp
/-! Cp12: sum of a list or a tuple; own errors bundled; dicts as maps over their keys. -/
namespace Cp
open PySem PySem.Spec PyProof.Rows L2
def rSumS (K : PySem.W.Frag) : List V → Hp → VK → Prop := fun vs H Q => ∃ (a : Addr) (ns : List Int), vs = [V.ref a] ∧ (SqL K H a (ns.map V.int) ∨ SqT K H a (ns.map V.int)) ∧ Q (.int ns.sum) H
theorem kSumS {X : Cx} {K : PySem.W.Frag} (e : X.K = K) (hc : X.calm = true) : CallR X (.builtin "sum") (rSumS K) := by
  subst e
  intro pins s σ H vs us Q J r h
  obtain ⟨a, ns, rfl, hs, q⟩ := h
  rw [Vals.ref1 r]
  rcases hs with hs | hs
  · obtain ⟨its, rv, hl, _⟩ := J.list hs
    exact sum_raw (J.ok.hd hc) hl.isList rv.ints fun h' tk t' hk => ⟨.int _, H, J.kept hk, ⟨_, rfl⟩, q⟩
  · obtain ⟨its, rv, hl, _⟩ := J.tuple hs
    obtain ⟨xs, hx⟩ := rv.ints.allInts.items
    have hn : numsOf (intItems xs).toList = ns := by rw [← hx]; exact rv.ints.numsOf
    rw [nums_intItems] at hn
    rw [hx] at hl
    refine PySem.W.ktm_sumG (J.ok.hd hc) hl fun h' tk t' hk => ?_
    rw [preSum_eq, List.take_of_length_le (by simp), hn]
    exact ⟨.int _, H, J.kept hk, ⟨_, rfl⟩, q⟩
theorem cbd_sumS {K : PySem.W.Frag} {d : Dt} {ns : List Int} (q : SeqD d (ns.map .int)) : CbD K (rSumS K) [d] (.int ns.sum) := fun G H xs s ⟨x, r, e, hx, hr⟩ Q k => by
  have e2 : r = [] := hr
  obtain ⟨a, ys, e1, h1, h2⟩ := q.at s hx
  subst e2 e1
  exact ⟨a, ns, e, by rw [← DaL.ofInts h2]; exact h1, k _ G H (Ext.rfl' s) rfl⟩
/-! ### own errors -/
def ErrOk (P : Program) (w : World) (K : PySem.W.Frag) (mg : Str → Option Value) (base : Heap) (x : Str) (C : Addr) : Prop :=
  ∃ f fd, ErrC K mg x C f ∧ Binds K fd ["self", "given"] [] ∧ FnOk P w K mg base CX0 1 f fd ["self", "given"] (spInit K)
theorem ps_raiseE {X : Cx} {W : WX} {x : Str} {C : Addr} {e : Expr} {te : TE} {k : Nat} {p pos pos2 : Pos} (T : ErrOk X.prog X.w X.K X.mg X.base x C) (hr : Room k X.A) (tk : Takes X W) (he : PE X e te) (hk : 2 ≤ k := by decide) (hc : X.calm = true := by rfl) (hg : Gl X x := by rfl) (hdb : (x == ("__debug__" : Str)) = false := by decide)
    (hse : starEach (e :: []) X.env = (false, eval e X.env) :: starEach [] X.env := by rfl) (hpl : (backTo pos (starEach [] X.env)).any (·.1) = false := by rfl) :
    PS X (.Raise (some (.Call (.Name x p) [e] [] pos)) none pos2) (fun _ σ H => tMkO C (spInit X.K) [] (tCons te tNil) σ H fun cls d H' => W cls d σ H') := by
  obtain ⟨f, fd, T, hb, F⟩ := T
  exact ps_raise hc tk (pmk_oex T.o T.i T.t F (hr.mono hk) hb .nil pass0 hg T.g (pa_cons he pa_nil hse) hdb hse hpl)
theorem ErrOk.t {P : Program} {w : World} {K : PySem.W.Frag} {mg : Str → Option Value} {base : Heap} {x : Str} {C : Addr} (T : ErrOk P w K mg base x C) : ∃ f, ErrC K mg x C f := let ⟨f, _, h, _⟩ := T; ⟨f, h⟩
theorem sv_raiseE {P : Program} {w : World} {base : Heap} {B : Cs} {Γ : Env} {A : AE} {x : Str} {mg : Str → Option Value} {C : Addr} {te : TE} (T : ErrOk P w B.K mg base x C) (h : Ev B te Γ fun d Γ' => B.Xi C d Γ') :
    Sv B (fun _ σ H => tMkO C (spInit B.K) [] (tCons te tNil) σ H fun cls d H' => B.W cls d σ H') Γ A := let ⟨_, T'⟩ := T.t; sv_raise T' h
/-! ### dicts as maps over their keys -/
section
variable {κ : Type} [DecidableEq κ]
def gd (ks : List κ) (f : κ → Dt) : List (κ × Dt) := ks.map fun k => (k, f k)
theorem gd_look {f : κ → Dt} {k : κ} : ∀ {ks : List κ}, k ∈ ks → lookD (gd ks f) k = some (f k)
  | [], h => nomatch h
  | a :: ks, h => by
    unfold lookD gd
    rw [List.map_cons]
    by_cases e : a = k
    · subst e
      rw [List.find?_cons_of_pos (by exact decide_eq_true rfl)]
      rfl
    · rw [List.find?_cons_of_neg (by rw [decide_eq_false e]; exact Bool.false_ne_true)]
      exact gd_look ((List.mem_cons.mp h).resolve_left fun z => e z.symm)
theorem gd_any {f : κ → Dt} {k : κ} {ks : List κ} : ((gd ks f).any fun q => decide (q.1 = k)) = decide (k ∈ ks) := by
  unfold gd
  induction ks with
  | nil => rfl
  | cons a ks ih =>
    rw [List.map_cons, List.any_cons, ih]
    by_cases e : a = k
    · have m : k ∈ a :: ks := by rw [e]; exact List.mem_cons_self
      have e1 : decide ((a, f a).1 = k) = true := decide_eq_true e
      rw [e1, decide_eq_true m, Bool.true_or]
    · have e1 : decide ((a, f a).1 = k) = false := decide_eq_false e
      rw [e1, Bool.false_or]
      by_cases m : k ∈ ks
      · rw [decide_eq_true m, decide_eq_true (List.mem_cons_of_mem _ m)]
      · rw [decide_eq_false m, decide_eq_false fun z => (List.mem_cons.mp z).elim (fun q => e q.symm) m]
def gset (f : κ → Dt) (k : κ) (d : Dt) : κ → Dt := fun j => if j = k then d else f j
theorem gd_put {f : κ → Dt} {k : κ} {d : Dt} {ks : List κ} (h : k ∈ ks) : putD (gd ks f) k d = gd ks (gset f k d) := by
  unfold putD
  rw [gd_any, decide_eq_true h, if_pos rfl]
  unfold gd
  rw [List.map_map]
  refine List.map_congr_left fun a _ => ?_
  show (if a = k then (a, d) else (a, f a)) = (a, gset f k d a)
  unfold gset
  split <;> rfl
theorem gd_new {f : κ → Dt} {k : κ} {d : Dt} {ks : List κ} (h : k ∉ ks) : putD (gd ks f) k d = gd (ks ++ [k]) (gset f k d) := by
  unfold putD
  rw [gd_any, decide_eq_false h, if_neg Bool.false_ne_true]
  unfold gd
  rw [List.map_append]
  have e : ks.map (fun k => (k, f k)) = ks.map fun j => (j, gset f k d j) := List.map_congr_left fun a ha => by
    unfold gset
    rw [if_neg fun z => h (by rw [← z]; exact ha)]
  rw [e]
  unfold gset
  simp
theorem gd_len {f : κ → Dt} {ks : List κ} : (gd ks f).length = ks.length := by
  unfold gd
  rw [List.length_map]
end
/-! ### steps -/
theorem ex_and {α : Sort _} {p q : α → Prop} {a : α} (h1 : p a) (h2 : q a) : ∃ a, p a ∧ q a := ⟨a, h1, h2⟩
theorem ite_t {c : Bool} {A B : Prop} (hc : c = true) (h : A) : if c = true then A else B := by
  rw [if_pos hc]
  exact h
theorem ite_f {c : Bool} {A B : Prop} (hc : c = false) (h : B) : if c = true then A else B := by
  rw [hc, if_neg Bool.false_ne_true]
  exact h
theorem lt_and {m n : Nat} {A : Prop} (h : Nat.ble (m + 1) n = true) (q : A) : m < n ∧ A := ⟨Nat.le_of_ble_eq_true h, q⟩
theorem le_and {m n : Nat} {A : Prop} (h : Nat.ble m n = true) (q : A) : m ≤ n ∧ A := ⟨Nat.le_of_ble_eq_true h, q⟩
theorem eq_and {α : Sort _} {a b : α} {A : Prop} (h : a = b) (q : A) : a = b ∧ A := ⟨h, q⟩
theorem sv_asgTp {B : Cs} {Γ : Env} {A : AE} {te : TE} {K : PySem.W.Frag} {n : Nat} {gs : TGs} {js : List Nat} (h : Ev B te Γ fun d Γ' => Tg B.K (gTup K n gs) js d Γ' A.nx) : Sv B (tAsg te (gTup K n gs)) Γ A := sv_asgT h
end Cp
/-! Cp13: data as the library's data: ==, != at any depth; sorted lists of lists or tuples of ints. -/
namespace Cp
open PySem PySem.Spec PyProof.Rows L2
mutual
def Dt.py : Dt → PyData
  | .non => .none
  | .bl b => .bool b
  | .int i => .int i
  | .str s => .str s
  | .lst l => .list (Dt.pys l)
  | .sq l => .list (Dt.pys l)
  | .tup l => .tuple (Dt.pys l)
  | .sqt l => .tuple (Dt.pys l)
  | .dk _ => .dict []
  | .dt _ => .dict []
def Dt.pys : List Dt → List PyData
  | [] => []
  | d :: l => Dt.py d :: Dt.pys l
end
mutual
def Dt.nod : Dt → Bool
  | .lst l => Dt.nods l
  | .sq l => Dt.nods l
  | .tup l => Dt.nods l
  | .sqt l => Dt.nods l
  | .dk _ => false
  | .dt _ => false
  | _ => true
def Dt.nods : List Dt → Bool
  | [] => true
  | d :: l => Dt.nod d && Dt.nods l
end
section
variable {K : PySem.W.Frag} {G H : Hp}
mutual
theorem Da.dp (s : Same G H) : ∀ {v : V} (d : Dt), d.nod = true → Da K G v d → Dp K H v d.py
  | _, .non, _, h => by
    cases (show _ = V.non from h)
    exact .non
  | _, .bl b, _, h => by
    cases (show _ = V.bl b from h)
    exact .bl b
  | _, .int i, _, h => by
    cases (show _ = V.int i from h)
    exact .int i
  | _, .str x, _, h => by
    cases (show _ = V.str x from h)
    exact .str x
  | _, .lst l, n, ⟨a, xs, e, h1, h2⟩ => by
    subst e
    exact .lst (.inl (.inl (s _ _ h1))) (DaL.dp s l n h2)
  | _, .sq l, n, ⟨a, xs, e, h1, h2⟩ => by
    subst e
    exact .lst (Same.seq s h1) (DaL.dp s l n h2)
  | _, .tup l, n, ⟨a, xs, e, h1, h2⟩ => by
    subst e
    exact .tup (.inl (.inl (s _ _ h1))) (DaL.dp s l n h2)
  | _, .sqt l, n, ⟨a, xs, e, h1, h2⟩ => by
    subst e
    exact .tup (Same.tup s h1) (DaL.dp s l n h2)
  | _, .dk _, n, _ => by cases n
  | _, .dt _, n, _ => by cases n
theorem DaL.dp (s : Same G H) : ∀ {xs : List V} (l : List Dt), Dt.nods l = true → DaL K G xs l → DpAll K H xs (Dt.pys l)
  | _, [], _, h => by
    cases (show _ = ([] : List V) from h)
    exact .nil
  | _, d :: l, n, ⟨v, vs, e, h1, h2⟩ => by
    subst e
    have n' : (Dt.nod d && Dt.nods l) = true := n
    rw [Bool.and_eq_true] at n'
    exact .cons (Da.dp s d n'.1 h1) (DaL.dp s l n'.2 h2)
end
theorem opd_eqD {d e : Dt} (h1 : d.nod = true) (h2 : e.nod = true) (h3 : SeqAt.shaped d.py = true) (h4 : SeqAt.shaped e.py = true) : OpD K (rEqD K) d e (.bl (PyData.eqv d.py e.py)) := fun G H x y s hx hy Q k =>
  ⟨d.py, e.py, Da.dp s d h1 hx, Da.dp s e h2 hy, h3, h4, k _ G H (Ext.rfl' s) rfl⟩
theorem opd_neD {d e : Dt} (h1 : d.nod = true) (h2 : e.nod = true) (h3 : SeqAt.shaped d.py = true) (h4 : SeqAt.shaped e.py = true) : OpD K (rNeD K) d e (.bl (!PyData.eqv d.py e.py)) := fun G H x y s hx hy Q k =>
  ⟨d.py, e.py, Da.dp s d h1 hx, Da.dp s e h2 hy, h3, h4, k _ G H (Ext.rfl' s) rfl⟩
end
theorem kEqD {X : Cx} {K : PySem.W.Frag} {k : Nat} (e : X.K = K) (hr : Room k X.A) : OpR X (compareOp .Eq) (rEqD K) := e ▸ op_eqD (by have := hr.dp; have := hr.un; omega)
theorem kNeD {X : Cx} {K : PySem.W.Frag} {k : Nat} (e : X.K = K) (hr : Room k X.A) : OpR X (compareOp .NotEq) (rNeD K) := e ▸ op_neD (by have := hr.dp; have := hr.un; omega)
/-! ### sorted(xs), xs a list of lists, or of tuples, of ints -/
def encQ (isL : Bool) (ns : List Int) : PyData := if isL then .list (ns.map .int) else .tuple (ns.map .int)
def leQ (isL : Bool) : List Int → List Int → Bool := PySem.W.dataLe false (encQ isL)
def dtQ (isL : Bool) (ns : List Int) : Dt := if isL then .lst (ns.map .int) else .tup (ns.map .int)
def rSortQ (K : PySem.W.Frag) (isL : Bool) : List V → Hp → VK → Prop := fun vs H Q => ∃ (a : Addr) (L : List (V × List Int)), vs = [V.ref a] ∧ SqL K H a (L.map (·.1)) ∧ (∀ q ∈ L, Dp K H q.1 (encQ isL q.2)) ∧ (isL = false → ∀ q ∈ L, q.2 ≠ []) ∧ L.length ≤ 1000 ∧
  ∀ p, H p = none → Q (.ref p) (upd H p (.lst ((L.mergeSort fun p q => leQ isL p.2 q.2).map (·.1))))
open PySem.W in
theorem each_vals {L : List (V × List Int)} : ∀ {us : List Value}, Vals (L.map (·.1)) us → EachIs (fun u (q : V × List Int) => RelV q.1 u) us L := fun {us} h => by
  induction L generalizing us with
  | nil =>
    cases h
    exact .nil
  | cons q L ih =>
    cases h with
    | cons r t => exact .cons r (ih t)
open PySem.W in
theorem vals_each {L : List (V × List Int)} : ∀ {us : List Value}, EachIs (fun u (q : V × List Int) => RelV q.1 u) us L → Vals (L.map (·.1)) us := fun {us} h => by
  induction L generalizing us with
  | nil =>
    cases h
    exact .nil
  | cons q L ih =>
    cases h with
    | cons r t => exact .cons r (ih t)
open PySem.W in
theorem each_and {α β : Type} {R S : α → β → Prop} : ∀ {as : List α} {bs : List β}, EachIs R as bs → (∀ a b, b ∈ bs → R a b → S a b) → EachIs S as bs
  | _, _, .nil, _ => .nil
  | _, _, .cons r t, h => .cons (h _ _ List.mem_cons_self r) (each_and t fun a b m => h a b (List.mem_cons_of_mem _ m))
theorem depth_enc (isL : Bool) (ns : List Int) : (encQ isL ns).depth ≤ 1 := by
  unfold encQ
  cases isL with
  | true =>
    rw [if_pos rfl]
    show (PyData.list (ns.map .int)).depth ≤ 1
    simp only [PyData.depth]
    rw [PySem.W.depth_ints]
    omega
  | false =>
    rw [if_neg Bool.false_ne_true]
    simp only [PyData.depth]
    rw [PySem.W.depth_ints]
    omega
theorem kSortQ {X : Cx} {K : PySem.W.Frag} {k : Nat} (isL : Bool) (e : X.K = K) (hr : Room k X.A) : CallR X (.builtin "sorted") (rSortQ K isL) := by
  subst e
  intro pins s σ H vs us Q J r h
  obtain ⟨a, L, rfl, hs, hd, hne, hlen, q⟩ := h
  obtain ⟨its, rv, hl, hz⟩ := J.list hs
  rw [Vals.ref1 r]
  have e0 := each_vals rv
  have hu : X.A.units + 3 < cLine := by
    have := hr.un
    omega
  refine PySem.W.sorted_data (enc := fun q : V × List Int => encQ isL q.2) (bs := L) hl.isList e0 (each_and e0 fun u b hb rb => Dp.reads J _ _ _ (hd b hb) rb) (PySem.W.AllAlike.of fun b b' => ?_) ?_ (by rw [sizeLine_eq]; omega) (fun b hb => ?_) fun out ho eo => ?_
  · unfold encQ
    cases isL with
    | true => rw [if_pos rfl, if_pos rfl]; simp only [PySem.W.alike]; exact PySem.W.alike_ints _ _
    | false => rw [if_neg Bool.false_ne_true, if_neg Bool.false_ne_true]; simp only [PySem.W.alike]; exact PySem.W.alike_ints _ _
  · cases isL with
    | true =>
      refine PySem.W.Sortable.others (enc := fun q : V × List Int => encQ true q.2) fun b => ?_
      show encQ true b.2 ≠ .none ∧ ∀ xs, encQ true b.2 ≠ .tuple xs
      unfold encQ
      rw [if_pos rfl]
      refine And.intro (fun z => ?_) (fun xs z => ?_)
      · cases z
      · cases z
    | false =>
      refine .inl fun d hd' => ?_
      obtain ⟨b, hb, rfl⟩ := List.mem_map.mp hd'
      have n := hne rfl b hb
      cases hq : b.2 with
      | nil => exact absurd hq n
      | cons x r => exact ⟨.int x, r.map .int, by unfold encQ; rw [if_neg Bool.false_ne_true, List.map_cons]⟩
  · have z := depth_enc isL b.2
    show X.A.units + 2 + (encQ isL b.2).depth < cLine
    omega
  · obtain ⟨ep, he'⟩ := PyProof.Rows.sortedAll_at s.heap its (List.toArray out)
    have hv : Vals ((L.mergeSort fun p q => leQ isL p.2 q.2).map (·.1)) out := vals_each eo
    have hln : ((L.mergeSort fun p q => leQ isL p.2 q.2).map (·.1)).length ≤ sizeLine := by
      rw [List.length_map, List.length_mergeSort, sizeLine_eq]
      omega
    exact ⟨.ref _, upd H (s.heap.objs.size + 1) (.lst ((L.mergeSort fun p q => leQ isL p.2 q.2).map (·.1))), J.laid (t' := s.toks) (fun _ _ => PyProof.Rows.sortedAll_old) (Nat.le_succ _) ⟨hln, out, ep, hv, he'⟩, rfl, q _ (J.hok.fresh (Nat.le_succ _))⟩
theorem dtQ_py (isL : Bool) (ns : List Int) : (dtQ isL ns).py = encQ isL ns ∧ (dtQ isL ns).nod = true := by
  have h1 : ∀ l : List Int, Dt.pys (l.map Dt.int) = l.map PyData.int := fun l => by
    induction l with
    | nil => rfl
    | cons x l ih => rw [List.map_cons, List.map_cons, ← ih]; rfl
  have h2 : ∀ l : List Int, Dt.nods (l.map Dt.int) = true := fun l => by
    induction l with
    | nil => rfl
    | cons x l ih =>
      show (true && Dt.nods (l.map Dt.int)) = true
      rw [ih]
      rfl
  cases isL with
  | true => exact ⟨by show PyData.list (Dt.pys (ns.map Dt.int)) = _; rw [h1]; rfl, h2 ns⟩
  | false => exact ⟨by show PyData.tuple (Dt.pys (ns.map Dt.int)) = _; rw [h1]; rfl, h2 ns⟩
theorem zipD {K : PySem.W.Frag} {G : Hp} (isL : Bool) : ∀ {Ls : List (List Int)} {xs : List V}, DaL K G xs (Ls.map (dtQ isL)) → ∃ L : List (V × List Int), L.map (·.1) = xs ∧ L.map (·.2) = Ls ∧ ∀ q ∈ L, Da K G q.1 (dtQ isL q.2)
  | [], xs, h => by
    cases (show xs = [] from h)
    exact ⟨[], rfl, rfl, fun q hq => nomatch hq⟩
  | ns :: Ls, _, ⟨v, vs, e, h1, h2⟩ => by
    obtain ⟨L, q1, q2, q3⟩ := zipD isL h2
    refine ⟨(v, ns) :: L, by rw [List.map_cons, q1, e], by rw [List.map_cons, q2], fun q hq => ?_⟩
    rcases List.mem_cons.mp hq with z | z
    · rw [z]
      exact h1
    · exact q3 q z
theorem unzipD {K : PySem.W.Frag} {G : Hp} (isL : Bool) : ∀ {L : List (V × List Int)}, (∀ q ∈ L, Da K G q.1 (dtQ isL q.2)) → DaL K G (L.map (·.1)) ((L.map (·.2)).map (dtQ isL))
  | [], _ => rfl
  | q :: L, h => ⟨q.1, L.map (·.1), rfl, h q List.mem_cons_self, unzipD isL fun p hp => h p (List.mem_cons_of_mem _ hp)⟩
theorem cbn_sortQ {K : PySem.W.Frag} {isL : Bool} {d : Dt} {Ls : List (List Int)} (q : d = .lst (Ls.map (dtQ isL))) (hne : isL = false → ∀ ns ∈ Ls, ns ≠ []) (hl : Ls.length ≤ 1000) : CbN K (rSortQ K isL) [d] ((Ls.mergeSort (leQ isL)).map (dtQ isL)) := fun G H xs s ⟨x, r, e, hx, hr⟩ Q k => by
  have e2 : r = [] := hr
  subst q
  obtain ⟨a, ys, e1, h1, h2⟩ := hx
  subst e2 e1
  obtain ⟨L, q1, q2, q3⟩ := zipD isL h2
  refine ⟨a, L, e, by rw [q1]; exact .inl (.inl (s _ _ h1)), fun q hq => ?_, fun hf q hq => hne hf q.2 (by rw [← q2]; exact List.mem_map.mpr ⟨q, hq, rfl⟩), by rw [← List.length_map (f := Prod.snd), q2]; exact hl, fun p np => ?_⟩
  · have z := Da.dp s _ (dtQ_py isL q.2).2 (q3 q hq)
    rw [(dtQ_py isL q.2).1] at z
    exact z
  · refine k p _ G _ (Ext.newH s np) np (s.free np) upd_same ?_
    have z := unzipD (K := K) (G := G) isL (L := L.mergeSort fun p q => leQ isL p.2 q.2) fun q hq => q3 q ((List.mergeSort_perm _ _).mem_iff.mp hq)
    have e3 : (L.mergeSort fun p q => leQ isL p.2 q.2).map (·.2) = Ls.mergeSort (leQ isL) := by
      rw [← q2]
      exact List.map_mergeSort fun a _ b _ => rfl
    rw [e3] at z
    exact z
end Cp
/-! Cp14: bodies that hand back a new list. -/
namespace Cp
open PySem PySem.Spec PyProof.Rows L2
/-- as Sv; the value that is returned is a new list -/
def SvN (B : Cs) (t : TS) (Γ : Env) (R : List Dt → Env → Prop) : Prop := ∀ gy hy, Wy B gy hy → ∀ (G H : Hp) (σ : L2.St) (D : Ends), Sl (B.b gy hy) G H σ Γ →
  (∀ p xs ds Γ' G' H' σ', R ds Γ' → Same G G' → Sl (B.b gy hy) G' H' σ' Γ' → NewL (B.b gy hy) G' H' σ' Γ' p xs ds → D.rt (.ref p) H') → t D σ H
section
variable {B : Cs} {Γ : Env} {R : List Dt → Env → Prop} {te : TE} {t u : TS}
theorem svN_ret (h : EvN B te Γ R) : SvN B (tRet te) Γ R := fun gy hy w G H σ D S k => h gy hy w G H σ S _ fun p xs ds Γ' G' H' hp s S' N => k p xs ds Γ' G' H' σ hp s S' N
theorem svN_seq (h : Sv B t Γ { nx := fun Γ' => SvN B u Γ' R }) : SvN B (tSeq t u) Γ R := fun gy hy w G H σ D S k =>
  h gy hy w G H σ { D with nx := u D } S (fun Γ' G' H' σ' hp s S' => hp gy hy w G' H' σ' D S' fun p xs ds Γ2 G2 H2 σ2 h2 s2 => k p xs ds Γ2 G2 H2 σ2 h2 (s.trans s2)) (fun _ _ _ _ _ _ z => z.elim) (fun _ _ _ _ z => z.elim) (fun _ _ _ _ z => z.elim)
end
theorem pxn_start {K : PySem.W.Frag} {n : Nat} {R : List Dt → (List Dt → Prop) → (Addr → Dt → Prop) → Prop} {N : List Str} {t : TS} {vs : List V} {H : Hp} {Q : VK} {E : XK} (h : PuXN K n R vs H Q E) (hn : n ≤ N.length)
    (body : ∀ (r : Rs) (ds : List Dt) (Ψ : List Dt → Prop) (Ξ : Addr → Dt → Prop), ds.length = n → R ds Ψ Ξ → SvN (r.at K (fun cls d _ H => E cls d H) (fun C d _ => Ξ C d)) t (env0 ds (N.length - n)) fun d _ => Ψ d) :
    t { nx := fun _ H' => Q .non H', rt := Q } (L2.start N vs) H := by
  obtain ⟨G, ds, Ψ, Ξ, s, D, hl, hR, q, qx⟩ := h
  have S := sl_start (N := N) s D (by rw [hl]; exact hn) (ghAll H) (Same.refl H) fun _ z => z
  rw [hl] at S
  have fin : ∀ {B : Cs} {G' H' : Hp} {σ' : L2.St} {Γ' : Env}, B.G0 = G → B.H0 = H → Sl (Cs.b B G (ghAll H)) G' H' σ' Γ' → Ext G H G' H' := fun {B G' H' σ' Γ'} e1 e2 S' => ⟨S'.gx, S'.hx, S'.gh, fun c o z => by rw [← e1, ← e2]; exact S'.ff c o z⟩
  have w : Wy (Rs.at ⟨G, H, G, ghAll H⟩ K (fun cls d _ H => E cls d H) (fun C d _ => Ξ C d)) G (ghAll H) :=
    ⟨fun C d dd v Γ' G' H' σ' hx S' e D' => qx C d hx dd v G' H' (fin (B := Rs.at ⟨G, H, G, ghAll H⟩ K (fun cls d _ H => E cls d H) (fun C d _ => Ξ C d)) rfl rfl S') e D', Same.refl _, Same.refl _, fun _ z => z⟩
  exact body ⟨G, H, G, ghAll H⟩ ds Ψ Ξ hl hR G (ghAll H) w G H (L2.start N vs) _ S fun p xs es Γ' G' H' σ' hp _ S' N => q es hp p xs G' H' (fin rfl rfl S') N.h0 N.g N.st N.da
end Cp
/-! Cp15: the drawing box read and written; bodies that hand back a new list and do not raise. -/
namespace Cp
open PySem PySem.Spec PyProof.Rows L2
section
variable {B : Cs} {Γ : Env} {Φ : Dt → Env → Prop} {A : AE} {te : TE} {t : TS} {i n : Nat} {a : Addr}
theorem ev_box0 (h : Γ[i]? = some (.box a n)) (q : ∀ g : Int, 0 ≤ g → Φ (.int g) Γ) : Ev B (tOp (rIx B.K) (tVar i) (tC (.int 0))) Γ Φ := fun gy hy w G H σ S Q k => by
  obtain ⟨e, _, _, g, bb, m, c, hH, hg, hm, hc, hn⟩ := S.sl i _ h
  exact ⟨.ref a, e, .inl ⟨a, _, 0, .int g, rfl, rfl, .inl (.inl hH), rfl, k _ _ Γ G H (q g hg) (Same.refl G) S rfl⟩⟩
theorem ev_box1 (h : Γ[i]? = some (.box a n)) (q : ∀ b : Bool, Φ (.bl b) Γ) : Ev B (tOp (rIx B.K) (tVar i) (tC (.int 1))) Γ Φ := fun gy hy w G H σ S Q k => by
  obtain ⟨e, _, _, g, bb, m, c, hH, hg, hm, hc, hn⟩ := S.sl i _ h
  exact ⟨.ref a, e, .inl ⟨a, _, 1, .bl bb, rfl, rfl, .inl (.inl hH), rfl, k _ _ Γ G H (q bb) (Same.refl G) S rfl⟩⟩
theorem ev_box2 (h : Γ[i]? = some (.box a n)) (q : ∀ m : Int, 0 ≤ m → m < 2147483629 → Φ (.int m) Γ) : Ev B (tOp (rIx B.K) (tVar i) (tC (.int 2))) Γ Φ := fun gy hy w G H σ S Q k => by
  obtain ⟨e, _, _, g, bb, m, c, hH, hg, hm, hc, hn⟩ := S.sl i _ h
  exact ⟨.ref a, e, .inl ⟨a, _, 2, .int m, rfl, rfl, .inl (.inl hH), rfl, k _ _ Γ G H (q m hm.1 hm.2) (Same.refl G) S rfl⟩⟩
theorem ev_box3 (h : Γ[i]? = some (.box a n)) (q : ∀ c : Int, 0 ≤ c → c + (n : Int) ≤ 1000000 → Φ (.int c) Γ) : Ev B (tOp (rIx B.K) (tVar i) (tC (.int 3))) Γ Φ := fun gy hy w G H σ S Q k => by
  obtain ⟨e, _, _, g, bb, m, c, hH, hg, hm, hc, hn⟩ := S.sl i _ h
  exact ⟨.ref a, e, .inl ⟨a, _, 3, .int c, rfl, rfl, .inl (.inl hH), rfl, k _ _ Γ G H (q c hc hn) (Same.refl G) S rfl⟩⟩
theorem sv_box0 (h : Ev B te Γ fun d Γ' => ∃ g : Int, d = .int g ∧ 0 ≤ g ∧ Γ'[i]? = some (.box a n) ∧ A.nx (Γ'.set i (.box a n))) : Sv B (tAsg te (gSub (tVar i) (tC (.int 0)) rSetL)) Γ A := fun gy hy w G H σ D S k1 _ _ _ =>
  h gy hy w G H σ S _ fun v d Γ1 G1 H1 ⟨g', hd, hg', hi, hp⟩ s1 S1 D1 => by
    subst hd
    have ev : v = .int g' := D1
    subst ev
    obtain ⟨e, n1, n2, g, bb, m, c, hH, hg, hm, hc, hn⟩ := S1.sl i _ hi
    exact ⟨.ref a, e, a, _, 0, 0, rfl, rfl, hH, rfl, k1 _ G1 _ σ hp s1 (S1.write hi rfl e ⟨rfl, n1, n2, g', bb, m, c, upd_same, hg', hm, hc, hn⟩)⟩
theorem sv_box3 {m' : Nat} (h : Ev B te Γ fun d Γ' => ∃ c : Int, d = .int c ∧ 0 ≤ c ∧ c + (m' : Int) ≤ 1000000 ∧ Γ'[i]? = some (.box a n) ∧ A.nx (Γ'.set i (.box a m'))) : Sv B (tAsg te (gSub (tVar i) (tC (.int 3)) rSetL)) Γ A := fun gy hy w G H σ D S k1 _ _ _ =>
  h gy hy w G H σ S _ fun v d Γ1 G1 H1 ⟨c', hd, hc', hn', hi, hp⟩ s1 S1 D1 => by
    subst hd
    have ev : v = .int c' := D1
    subst ev
    obtain ⟨e, n1, n2, g, bb, m, c, hH, hg, hm, hc, hn⟩ := S1.sl i _ hi
    exact ⟨.ref a, e, a, _, 3, 3, rfl, rfl, hH, rfl, k1 _ G1 _ σ hp s1 (S1.write hi rfl e ⟨rfl, n1, n2, g, bb, m, c', upd_same, hg, hm, hc', hn'⟩)⟩
/-- an own list of four becomes a box -/
theorem sv_mkbox {g m : Int} {bb : Bool} (h : Γ[i]? = some (.l [.int g, .bl bb, .int m, .int 0])) (hg : 0 ≤ g) (hm : 0 ≤ m ∧ m < 2147483629) (hn : n ≤ 1000000) (q : ∀ a, Sv B t (Γ.set i (.box a n)) A) : Sv B t Γ A := fun gy hy w G H σ D S k1 k2 k3 k4 => by
  obtain ⟨p, xs, e, n1, n2, n3, hH, D1⟩ := S.sl i _ h
  have ex : xs = [.int g, .bl bb, .int m, .int 0] := by
    obtain ⟨v1, r1, e1, d1, v2, r2, e2, d2, v3, r3, e3, d3, v4, r4, e4, d4, d5⟩ := D1
    have z1 : v1 = .int g := d1
    have z2 : v2 = .bl bb := d2
    have z3 : v3 = .int m := d3
    have z4 : v4 = .int 0 := d4
    have z5 : r4 = [] := d5
    rw [e1, e2, e3, e4, z1, z2, z3, z4, z5]
  subst ex
  have hi : i < Γ.length := (List.getElem?_eq_some_iff.mp h).1
  refine q p gy hy w G H σ D ⟨S.gx, S.hx, S.px, S.h1, S.gh, S.ff, by rw [List.length_set]; exact S.len, fun j α z => ?_, fun j k α β r h1 h2 h3 h4 h5 h6 => ?_⟩ k1 k2 k3 k4
  · by_cases hj : i = j
    · subst hj
      rw [List.getElem?_set_self hi] at z
      cases z
      exact ⟨e, n1, n3, g, bb, m, 0, hH, hg, hm, Int.le_refl _, by omega⟩
    · rw [List.getElem?_set_ne hj] at z
      exact S.sl j α z
  · have back : ∀ {m' : Nat} {ε : Arg}, (Γ.set i (.box p n))[m']? = some ε → ε.own = true → ∃ ε', Γ[m']? = some ε' ∧ ε'.own = true := fun {m' ε} e1 e2 => by
      by_cases hm' : i = m'
      · subst hm'
        exact ⟨_, h, rfl⟩
      · rw [List.getElem?_set_ne hm'] at e1
        exact ⟨ε, e1, e2⟩
    obtain ⟨α', a1, a2⟩ := back h1 h2
    obtain ⟨β', b1, b2⟩ := back h4 h5
    exact S.nd j k α' β' r a1 a2 h3 b1 b2 h6
end
theorem pn_start {K : PySem.W.Frag} {n : Nat} {R : List Dt → (List Dt → Prop) → Prop} {N : List Str} {t : TS} {vs : List V} {H : Hp} {Q : VK} {E : XK} (h : PuN K n R vs H Q E) (hn : n ≤ N.length)
    (body : ∀ (r : Rs) (ds : List Dt) (Ψ : List Dt → Prop), ds.length = n → R ds Ψ → SvN (r.at K noW noX) t (env0 ds (N.length - n)) fun d _ => Ψ d) :
    t { nx := fun _ H' => Q .non H', rt := Q } (L2.start N vs) H := by
  obtain ⟨G, ds, Ψ, s, D, hl, hR, q⟩ := h
  have S := sl_start (N := N) s D (by rw [hl]; exact hn) (ghAll H) (Same.refl H) fun _ z => z
  rw [hl] at S
  have w : Wy (Rs.at ⟨G, H, G, ghAll H⟩ K noW noX) G (ghAll H) := ⟨fun _ _ _ _ _ _ _ _ z => z.elim, Same.refl _, Same.refl _, fun _ z => z⟩
  have fin : ∀ {G' H' : Hp} {σ' : L2.St} {Γ' : Env}, Sl (Cs.b (Rs.at ⟨G, H, G, ghAll H⟩ K noW noX) G (ghAll H)) G' H' σ' Γ' → Ext G H G' H' := fun {G' H' σ' Γ'} S' => ⟨S'.gx, S'.hx, S'.gh, S'.ff⟩
  exact body ⟨G, H, G, ghAll H⟩ ds Ψ hl hR G (ghAll H) w G H (L2.start N vs) _ S fun p xs es Γ' G' H' σ' hp _ S' N => q es hp p xs G' H' (fin S') N.h0 N.g N.st N.da
/-- what was drawn: the box keeps its place -/
theorem Env.box0 {Γ : Env} {a : Addr} {m : Nat} (h : Γ[0]? = some (.box a m)) : ∃ r, Γ = .box a m :: r := by
  cases Γ with
  | nil => cases h
  | cons x r =>
    rw [List.getElem?_cons_zero] at h
    cases h
    exact ⟨r, rfl⟩
/-! ### data of bounded depth -/
def Dt.lay : Nat → Dt → Bool
  | _, .non => true
  | _, .bl _ => true
  | _, .int _ => true
  | _, .str s => PyData.canLay0 (.str s)
  | _, .dk _ => false
  | _, .dt _ => false
  | 0, _ => false
  | n + 1, .lst l => l.all (Dt.lay n)
  | n + 1, .sq l => l.all (Dt.lay n)
  | n + 1, .tup l => l.all (Dt.lay n)
  | n + 1, .sqt l => l.all (Dt.lay n)
theorem lay_all {n : Nat} (ih : ∀ d : Dt, d.lay n = true → d.nod = true ∧ d.py.canLay0 = true ∧ d.py.depth ≤ n) : ∀ l : List Dt, l.all (Dt.lay n) = true → Dt.nods l = true ∧ PyData.canLayAll0 (Dt.pys l) = true ∧ PyData.depthAll (Dt.pys l) ≤ n
  | [], _ => ⟨rfl, by show PyData.canLayAll0 [] = true; simp only [PyData.canLayAll0], by show PyData.depthAll [] ≤ n; simp only [PyData.depthAll]; omega⟩
  | d :: l, h => by
    rw [List.all_cons, Bool.and_eq_true] at h
    obtain ⟨a1, a2, a3⟩ := ih d h.1
    obtain ⟨b1, b2, b3⟩ := lay_all ih l h.2
    refine ⟨by show (Dt.nod d && Dt.nods l) = true; rw [a1, b1]; rfl, ?_, ?_⟩
    · show PyData.canLayAll0 (Dt.py d :: Dt.pys l) = true
      simp only [PyData.canLayAll0]
      rw [a2, b2]
      rfl
    · show PyData.depthAll (Dt.py d :: Dt.pys l) ≤ n
      simp only [PyData.depthAll]
      omega
theorem lay_ok : ∀ (n : Nat) (d : Dt), d.lay n = true → d.nod = true ∧ d.py.canLay0 = true ∧ d.py.depth ≤ n
  | n, .non, _ => ⟨rfl, by show PyData.canLay0 .none = true; simp only [PyData.canLay0], by show PyData.depth .none ≤ n; simp only [PyData.depth]; omega⟩
  | n, .bl b, _ => ⟨rfl, by show PyData.canLay0 (.bool b) = true; simp only [PyData.canLay0], by show PyData.depth (.bool b) ≤ n; simp only [PyData.depth]; omega⟩
  | n, .int b, _ => ⟨rfl, by show PyData.canLay0 (.int b) = true; simp only [PyData.canLay0], by show PyData.depth (.int b) ≤ n; simp only [PyData.depth]; omega⟩
  | n, .str b, h => ⟨rfl, by cases n <;> exact h, by show PyData.depth (.str b) ≤ n; simp only [PyData.depth]; omega⟩
  | n, .dk _, h => by cases n <;> cases h
  | n, .dt _, h => by cases n <;> cases h
  | 0, .lst _, h => by cases h
  | 0, .sq _, h => by cases h
  | 0, .tup _, h => by cases h
  | 0, .sqt _, h => by cases h
  | n + 1, .lst l, h => by
    obtain ⟨a1, a2, a3⟩ := lay_all (lay_ok n) l h
    refine ⟨a1, ?_, ?_⟩
    · show PyData.canLay0 (.list (Dt.pys l)) = true
      simp only [PyData.canLay0]
      exact a2
    · show PyData.depth (.list (Dt.pys l)) ≤ n + 1
      simp only [PyData.depth]
      omega
  | n + 1, .sq l, h => by
    obtain ⟨a1, a2, a3⟩ := lay_all (lay_ok n) l h
    refine ⟨a1, ?_, ?_⟩
    · show PyData.canLay0 (.list (Dt.pys l)) = true
      simp only [PyData.canLay0]
      exact a2
    · show PyData.depth (.list (Dt.pys l)) ≤ n + 1
      simp only [PyData.depth]
      omega
  | n + 1, .tup l, h => by
    obtain ⟨a1, a2, a3⟩ := lay_all (lay_ok n) l h
    refine ⟨a1, ?_, ?_⟩
    · show PyData.canLay0 (.tuple (Dt.pys l)) = true
      simp only [PyData.canLay0]
      exact a2
    · show PyData.depth (.tuple (Dt.pys l)) ≤ n + 1
      simp only [PyData.depth]
      omega
  | n + 1, .sqt l, h => by
    obtain ⟨a1, a2, a3⟩ := lay_all (lay_ok n) l h
    refine ⟨a1, ?_, ?_⟩
    · show PyData.canLay0 (.tuple (Dt.pys l)) = true
      simp only [PyData.canLay0]
      exact a2
    · show PyData.depth (.tuple (Dt.pys l)) ≤ n + 1
      simp only [PyData.depth]
      omega
theorem lay_shaped {n : Nat} {d : Dt} (h : d.lay n = true) (hn : n ≤ 64) : SeqAt.shaped d.py = true := by
  obtain ⟨_, h1, h2⟩ := lay_ok n d h
  unfold SeqAt.shaped
  rw [h1, decide_eq_true (Nat.le_trans h2 hn)]
  rfl
theorem opd_eqL {K : PySem.W.Frag} (n : Nat) {d e : Dt} (h1 : d.lay n = true) (h2 : e.lay n = true) (hn : n ≤ 64 := by decide) : OpD K (rEqD K) d e (.bl (PyData.eqv d.py e.py)) :=
  opd_eqD (lay_ok n d h1).1 (lay_ok n e h2).1 (lay_shaped h1 hn) (lay_shaped h2 hn)
theorem opd_neL {K : PySem.W.Frag} (n : Nat) {d e : Dt} (h1 : d.lay n = true) (h2 : e.lay n = true) (hn : n ≤ 64 := by decide) : OpD K (rNeD K) d e (.bl (!PyData.eqv d.py e.py)) :=
  opd_neD (lay_ok n d h1).1 (lay_ok n e h2).1 (lay_shaped h1 hn) (lay_shaped h2 hn)
theorem eqv_nil (l : List Dt) : PyData.eqv (Dt.py (.lst l)) (Dt.py (.lst [])) = l.isEmpty := by
  cases l with
  | nil =>
    show PyData.eqv (.list []) (.list []) = true
    simp only [PyData.eqv, PyData.eqvAll]
  | cons d l =>
    show PyData.eqv (.list (Dt.py d :: Dt.pys l)) (.list []) = false
    simp only [PyData.eqv, PyData.eqvAll]
theorem eqv_same {n : Nat} {d : Dt} (h : d.lay n = true) : PyData.eqv d.py d.py = true := SeqAt.eqv_refl _ (lay_ok n d h).2.1
/-- a, b = new list, [] -/
theorem sv_parL {B : Cs} {Γ : Env} {A : AE} {i j : Nat} {t1 : TE} (h : EvN B t1 Γ fun ds Γ1 => i < Γ1.length ∧ j < Γ1.length ∧ i ≠ j ∧ A.nx ((Γ1.set i (.l ds)).set j (.l []))) : Sv B (tPar i j (tCons t1 (tCons (tLst tNil) tNil))) Γ A := fun gy hy w G H σ D S k1 _ _ _ =>
  h gy hy w G H σ S _ fun p xs ds Γ1 G1 H1 ⟨hi, hj, hij, hp⟩ s1 S1 N1 => ⟨Nat.zero_le _, fun p2 np2 => by
    obtain ⟨n1, n2, n4, n3, D', no⟩ := N1
    have S2 := S1.setOwn (p := p) (α := .l ds) ⟨p, xs, rfl, n1, n2, n4, n3, D'⟩ hi no
    have S3 := S2.ext (Ext.newH (o := .lst []) S2.gh np2)
    have N3 := newL (H' := upd H1 p2 (.lst [])) (xs := []) (ds := []) S2 np2 (S2.gh.free np2) upd_same rfl
    exact ⟨.ref p, .ref p2, rfl, k1 _ _ _ _ hp s1 (S3.setOwn (p := p2) (α := .l []) ⟨p2, [], rfl, N3.g, N3.h0, N3.hx, N3.st, N3.da⟩ (by rw [List.length_set]; exact hj) N3.no)⟩⟩
theorem sv_ifA {B : Cs} {Γ : Env} {A : AE} {tt : TT} {t u : TS} (h : EvT B tt Γ fun _ Γ' => Γ' = Γ) (h1 : Sv B t Γ A) (h2 : Sv B u Γ A) : Sv B (tIfS tt t u) Γ A :=
  sv_if (EvT.imp h fun c Γ' e => by
    subst e
    cases c with
    | true => exact ite_t rfl h1
    | false => exact ite_f rfl h2)
end Cp
/-! Cp16: list(range(n)), lists unpacked, signs of texts. -/
namespace Cp
open PySem PySem.Spec PyProof.Rows L2
section
variable {B : Cs} {Γ : Env} {Φ : Dt → Env → Prop} {Θ : List Dt → Env → Prop} {te : TE} {A : AE}
theorem en_lrg (h : Ev B te Γ fun d Γ' => ∃ n : Nat, d = .int (n : Int) ∧ n ≤ 1000 ∧ Θ ((List.range n).map fun i : Nat => Dt.int (i : Int)) Γ') : EvN B (tLstRg (tRg1 te)) Γ Θ := fun gy hy w G H σ S Q k =>
  h gy hy w G H σ S _ fun v d Γ1 G1 H1 ⟨n, hd, hn, hp⟩ s1 S1 D1 => by
    subst hd
    have ev : v = .int (n : Int) := D1
    subst ev
    refine ⟨(n : Int), rfl, RgOk.of_le (by omega) (by omega) (by omega) (by omega), fun p np => k p _ _ Γ1 G1 _ hp s1 (S1.ext (Ext.newH S1.gh np)) (newL S1 np (S1.gh.free np) upd_same ?_)⟩
    unfold rgV
    have e : ((n : Int) - 0).toNat = n := by omega
    rw [e]
    have z := DaL.ints (K := B.K) (G := G1) ((List.range n).map fun i : Nat => (i : Int))
    rw [List.map_map, List.map_map] at z
    have e1 : (List.range n).map (fun i : Nat => V.int (0 + (i : Int))) = (List.range n).map (V.int ∘ fun i : Nat => (i : Int)) := List.map_congr_left fun i _ => by
      show V.int (0 + (i : Int)) = V.int (i : Int)
      rw [Int.zero_add]
    rw [e1]
    exact z
theorem tg_lst {K : PySem.W.Frag} {gs : TGs} {n : Nat} {ds : List Dt} {js : List Nat} {Ω : Env → Prop} (hn : ds.length = n) (h : TgL K gs js ds Γ Ω) : Tg K (gLst K n gs) js (.lst ds) Γ Ω := fun b hb G H σ v Q S ⟨a, xs, e, D1, D2⟩ k =>
  ⟨a, xs, e, .inl (.inl (S.gh _ _ D1)), (DaL.len D2).trans hn, h b hb G H σ xs Q S D2 k⟩
theorem sv_asgLp {K : PySem.W.Frag} {n : Nat} {gs : TGs} {js : List Nat} (h : Ev B te Γ fun d Γ' => Tg B.K (gLst K n gs) js d Γ' A.nx) : Sv B (tAsg te (gLst K n gs)) Γ A := sv_asgT h
end
theorem kLst {X : Cx} {K : PySem.W.Frag} {pos : Pos} {es : List Expr} {k : Nat} {t : TGs} {n : Nat} (e : X.K = K) (hc : X.calm = true) (h : PGs X es t) (hn : (assignEach es X.env).length = n := by rfl) (hst : (assignEach es X.env).findIdx? (·.1) = none := by rfl) : PG X (.Tuple es k pos) (gLst K n t) := e ▸ pg_lst hc h (hn := hn) (hst := hst)
theorem pe_lrg {X : Cx} {e : Expr} {te : TE} {p pos p2 pos2 : Pos} (hm : X.mg "list" = none) (hm2 : X.mg "range" = none) (he : PE X e te) (hc : X.calm = true := by rfl) (hg : Gl X "list" := by rfl) (hg2 : Gl X "range" := by rfl) (na : starEach [e] X.env = (false, eval e X.env) :: starEach [] X.env := by rfl)
    (na2 : starEach [.Call (.Name "range" p2) [e] [] pos2] X.env = (false, eval (.Call (.Name "range" p2) [e] [] pos2) X.env) :: starEach [] X.env := by rfl) : PE X (.Call (.Name "list" p) [.Call (.Name "range" p2) [e] [] pos2] [] pos) (tLstRg (tRg1 te)) := pe_listRg hc hg hm (prg_1 hg2 hm2 he na) na2
theorem opd_ixS {K : PySem.W.Frag} {z : Str} {n : Int} {c : Nat} (hz : z.length ≤ 100000) (h : atI z.cps.toList n = some c) : OpD K (rIx K) (.str z) (.int n) (.str ⟨#[c]⟩) := fun G H x y s hx hy Q k => by
  have e1 : x = .str z := hx
  have e2 : y = .int n := hy
  subst e1 e2
  exact .inr (.inr ⟨z, n, c, rfl, rfl, sz_small hz, h, k _ G H (Ext.rfl' s) rfl⟩)
theorem ev_slS {B : Cs} {Γ : Env} {Φ : Dt → Env → Prop} {te : TE} {tl th : TO} (h : Ev B te Γ fun d Γ1 => EvO B tl Γ1 fun lo Γ2 => EvO B th Γ2 fun hi Γ3 => ∃ z : Str, d = .str z ∧ z.length ≤ 100000 ∧ Φ (.str (cutS z lo hi)) Γ3) : Ev B (tSl rSlS te tl th) Γ Φ := fun gy hy w G H σ S Q k =>
  h gy hy w G H σ S _ fun v d Γ1 G1 H1 h1 s1 S1 D1 => h1 gy hy w G1 H1 σ S1 _ fun lo Γ2 G2 H2 h2 s2 S2 => h2 gy hy w G2 H2 σ S2 _ fun hi Γ3 G3 H3 ⟨z, hd, hz, h3⟩ s3 S3 => by
    subst hd
    have e : v = .str z := D1
    subst e
    exact ⟨z, rfl, sz_small hz, k _ _ Γ3 G3 H3 h3 ((s1.trans s2).trans s3) S3 rfl⟩
/-- a test whose answer does not matter -/
theorem et_any {B : Cs} {Γ : Env} {Ψ : Bool → Env → Prop} {tt : TT} (h : EvT B tt Γ fun _ Γ' => Γ' = Γ) (k : ∀ c, Ψ c Γ) : EvT B tt Γ Ψ := EvT.imp h fun c Γ' e => by
  rw [e]
  exact k c
theorem OpN.d {K : PySem.W.Frag} {r : R2} {d1 d2 : Dt} {ds : List Dt} (h : OpN K r d1 d2 ds) : OpD K r d1 d2 (.lst ds) := fun G H x y s hx hy Q k => h G H x y s hx hy Q fun p xs G' H' e n0 n1 n2 D => by
  have e1 : Same G' (upd G' p (.lst xs)) := same_new n1
  refine k (.ref p) (upd G' p (.lst xs)) H' ⟨e.g.trans e1, e.h, fun c o q => ?_, fun c o q => ?_⟩ ⟨p, xs, rfl, upd_same, DaL.up e1 _ D⟩
  · by_cases hc : c = p
    · subst hc
      rw [upd_same] at q
      rw [n2]
      exact q
    · rw [upd_ne hc] at q
      exact e.s c o q
  · by_cases hc : c = p
    · exact .inr (hc ▸ n0)
    · rw [upd_ne hc] at q
      exact e.f c o q
theorem CbN.d {K : PySem.W.Frag} {r : List V → Hp → VK → Prop} {ds es : List Dt} (h : CbN K r ds es) : CbD K r ds (.lst es) := fun G H xs0 s hx Q k => h G H xs0 s hx Q fun p xs G' H' e n0 n1 n2 D => by
  have e1 : Same G' (upd G' p (.lst xs)) := same_new n1
  refine k (.ref p) (upd G' p (.lst xs)) H' ⟨e.g.trans e1, e.h, fun c o q => ?_, fun c o q => ?_⟩ ⟨p, xs, rfl, upd_same, DaL.up e1 _ D⟩
  · by_cases hc : c = p
    · subst hc
      rw [upd_same] at q
      rw [n2]
      exact q
    · rw [upd_ne hc] at q
      exact e.s c o q
  · by_cases hc : c = p
    · exact .inr (hc ▸ n0)
    · rw [upd_ne hc] at q
      exact e.f c o q
theorem opd_cat {K : PySem.W.Frag} {l l' : List Dt} (hl : l.length + l'.length ≤ 100000) : OpD K rCat (.lst l) (.lst l') (.lst (l ++ l')) := (opn_cat hl).d
theorem opd_rep {K : PySem.W.Frag} {l : List Dt} {n : Nat} (hn : n ≤ 1000) (hl : l.length ≤ 1000) : OpD K rRep (.lst l) (.int (n : Int)) (.lst (List.replicate n l).flatten) := (opn_rep hn hl).d
theorem ev_callBL {B : Cs} {Γ : Env} {Φ : Dt → Env → Prop} {ta : TA} {E : XK} {n i : Nat} {a : Addr} {n0 : Nat} {k : List Dt → Nat} {R : List Dt → (Dt → Prop) → Prop} (h0 : Γ[i]? = some (.box a n0)) (h : EvA B ta Γ fun ds Γ' => ds.length = n ∧ ∃ m n', Γ'[i]? = some (.box a n') ∧ m + k ds ≤ n' ∧ R ds fun d => Φ d (Γ'.set i (.box a m))) :
    Ev B (tCall (PuB B.K n k R) [] E (tCons (tVar i) ta)) Γ Φ := fun gy hy w G H σ S Q q => by
  obtain ⟨e0, _⟩ := S.sl i _ h0
  refine ⟨.ref a, e0, h gy hy w G H σ S _ fun vs ds Γ1 G1 H1 ⟨hl, m, n', hi, hle, hR⟩ s1 S1 D1 => ?_⟩
  obtain ⟨_, g1, _, b1⟩ := S1.sl i _ hi
  exact ⟨a, vs, G1, ds, m, _, by rw [List.append_nil], S1.gh, g1, b1.le hle, D1, hl, hR, fun d hp v G2 H2 e hb D2 => q v d _ G2 H2 hp (s1.trans e.g) (S1.extB hi e hb) D2⟩
end Cp
/-! Cp17: dict(pairs), the keys tuples of ints. -/
namespace Cp
open PySem PySem.Spec PyProof.Rows L2
theorem atKey_no {xs : List (List Key × Addr × Value)} {k : List Key} (h : ∀ x ∈ xs, x.1 ≠ k) : atKey xs k = none := by
  cases e : atKey xs k with
  | none => rfl
  | some p =>
    exfalso
    unfold atKey at e
    obtain ⟨x, h1, h2⟩ := Option.map_eq_some_iff.mp e
    have h3 := List.find?_some h1
    have h4 := List.mem_of_find?_eq_some h1
    exact h x h4 (by simpa using h3)
theorem stored_all : ∀ (ps acc : List (List Key × Addr × Value)), ((acc ++ ps).map (·.1)).Nodup → storedAllH acc ps = acc ++ ps
  | [], acc, _ => by rw [List.append_nil]; rfl
  | p :: ps, acc, hn => by
    have h1 : ∀ x ∈ acc, x.1 ≠ p.1 := fun x hx e => by
      rw [List.map_append, List.map_cons, List.nodup_append] at hn
      exact hn.2.2 x.1 (List.mem_map.mpr ⟨x, hx, rfl⟩) p.1 List.mem_cons_self e
    have e1 : storedAllH acc (p :: ps) = storedAllH (storedH acc p.1 p.2.1 p.2.2) ps := rfl
    rw [e1, storedH_new (atKey_no h1), stored_all ps _ (by rw [List.append_assoc]; exact hn), List.append_assoc]
    rfl
/-- a pair's address, its key's, the key, the value -/
abbrev PrT := Addr × Addr × List Key × V
def rDictT (K : PySem.W.Frag) : List V → Hp → VK → Prop := fun vs H Q => ∃ (a : Addr) (L : List PrT), vs = [.ref a] ∧ SqL K H a (L.map fun q => .ref q.1) ∧ (∀ q ∈ L, SqT K H q.1 [.ref q.2.1, q.2.2.2] ∧ H q.2.1 = some (.tup (q.2.2.1.map kV))) ∧ (L.map (·.2.2.1)).Nodup ∧ L.length ≤ 1000 ∧
  ∀ p, H p = none → Q (.ref p) (upd H p (.dT (L.map fun q => (q.2.2.1, q.2.2.2))))
theorem prt_vals {X : Cx} {pins : List (Addr × Obj)} {σ : L2.St} {H : Hp} {s : Shared} (J : Inv X pins σ H s) : ∀ {L : List PrT}, (∀ q ∈ L, SqT X.K H q.1 [.ref q.2.1, q.2.2.2] ∧ H q.2.1 = some (.tup (q.2.2.1.map kV))) →
    ∃ Z : List (PrT × Value), Z.map (·.1) = L ∧ ∀ z ∈ Z, RelV z.1.2.2.2 z.2 ∧ IsTup s.heap z.1.1 #[.ref z.1.2.1, z.2] ∧ H z.1.2.1 = some (.tup (z.1.2.2.1.map kV))
  | [], _ => ⟨[], rfl, fun z hz => nomatch hz⟩
  | q :: L, h => by
    obtain ⟨Z, h1, h2⟩ := prt_vals J fun p hp => h p (List.mem_cons_of_mem _ hp)
    obtain ⟨hq, hk⟩ := h q List.mem_cons_self
    obtain ⟨its, rv, pl, _⟩ := J.tuple hq
    obtain ⟨u1, u2, rfl, r1, r2⟩ := vals2 rv
    cases r1
    refine ⟨(q, u2) :: Z, by rw [List.map_cons, h1], fun z hz => ?_⟩
    rcases List.mem_cons.mp hz with e | e
    · subst e
      exact ⟨r2, pl, hk⟩
    · exact h2 z e
theorem prt_pair {H Hn : Hp} {h : Heap} (k : ∀ b o, H b = some o → Hn b = some o) : ∀ {Z : List (PrT × Value)}, (∀ z ∈ Z, RelV z.1.2.2.2 z.2 ∧ IsTup h z.1.1 #[.ref z.1.2.1, z.2] ∧ H z.1.2.1 = some (.tup (z.1.2.2.1.map kV))) →
    Paired (fun (p : List Key × V) (q : List Key × Addr × Value) => p.1 = q.1 ∧ Hn q.2.1 = some (.tup (p.1.map kV)) ∧ RelV p.2 q.2.2) (Z.map ((fun q : PrT => (q.2.2.1, q.2.2.2)) ∘ fun x => x.1)) (Z.map fun z => (z.1.2.2.1, z.1.2.1, z.2))
  | [], _ => .nil
  | z :: Z, h => by
    obtain ⟨a1, a2, a3⟩ := h z List.mem_cons_self
    exact .cons ⟨rfl, k _ _ a3, a1⟩ (prt_pair k fun y hy => h y (List.mem_cons_of_mem _ hy))
theorem kDictT {X : Cx} {K : PySem.W.Frag} {k : Nat} (e : X.K = K) (hr : Room k X.A) : CallR X (.type "dict") (rDictT K) := by
  subst e
  intro pins s σ H vs us Q J r h
  obtain ⟨a, L, rfl, hs, hq, hnd, hlen, q⟩ := h
  obtain ⟨its, rv, hl, hz⟩ := J.list hs
  rw [Vals.ref1 r]
  obtain ⟨Z, hZ, hz2⟩ := prt_vals J hq
  have eits : its = Z.map fun z => Value.ref z.1.1 := by
    have e1 := refs_at (ps := L.map (·.1)) (by rw [List.map_map]; exact rv)
    rw [e1, ← hZ, List.map_map, List.map_map]
    rfl
  have hu : (tupleKind (mixKind X.prog X.w)).room X.A.in1.in1 := by
    have := hr.un
    show X.A.units + 1 + 1 < cLine
    omega
  have hzl : Z.length = L.length := by rw [← hZ, List.length_map]
  have keyAt : ∀ z ∈ Z, (tupleKind (mixKind X.prog X.w)).is s.heap z.1.2.2.1 z.1.2.1 := fun z hz => key_of J.hok (hz2 z hz).2.2
  have hps : (Z.map fun z => ((Value.ref z.1.2.1, z.2) : Value × Value)).length = Z.length := List.length_map _
  have P := PairArg.list (prog := X.prog) (w := X.w) a its.toArray (fun j => (Z.map (·.1.1)).getD j 0) (Z.map fun z => ((Value.ref z.1.2.1, z.2) : Value × Value))
  have ok : PlainSeq "list" s.heap a its.toArray ∧ PairItems s.heap its.toArray (fun j => (Z.map (·.1.1)).getD j 0) (Z.map fun z => ((Value.ref z.1.2.1, z.2) : Value × Value)) := by
    obtain ⟨o, n, h1, h2, h3, h4⟩ := hl
    refine ⟨⟨o, n, h1, h2, h3, h4⟩, by rw [List.size_toArray, eits, List.length_map, List.length_map], fun j k' v' hj => ?_⟩
    rw [List.getElem?_map] at hj
    cases hzj : Z[j]? with
    | none =>
      rw [hzj] at hj
      cases hj
    | some z =>
      rw [hzj] at hj
      have hj' : (Value.ref z.1.2.1, z.2) = (k', v') := Option.some.inj hj
      cases hj'
      have e1 : (Z.map (·.1.1)).getD j 0 = z.1.1 := by
        rw [List.getD_eq_getElem?_getD, List.getElem?_map, hzj]
        rfl
      show its.toArray[j]? = some (.ref ((Z.map (·.1.1)).getD j 0)) ∧ PairAt s.heap ((Z.map (·.1.1)).getD j 0) _ _
      rw [e1]
      refine ⟨?_, .inl (hz2 z (List.mem_of_getElem? hzj)).2.1⟩
      rw [eits, List.getElem?_toArray, List.getElem?_map, hzj]
      rfl
  have ndz : ((Z.map fun z => ((z.1.2.2.1, z.1.2.1, z.2) : List Key × Addr × Value)).map (·.1)).Nodup := by
    rw [List.map_map]
    have e : (Z.map ((fun x : List Key × Addr × Value => x.1) ∘ fun z : PrT × Value => (z.1.2.2.1, z.1.2.1, z.2))) = L.map (·.2.2.1) := by
      rw [← hZ, List.map_map]
      rfl
    rw [e]
    exact hnd
  refine call_dict_pairsH (knd := tupleKind (mixKind X.prog X.w)) (ps := Z.map fun z => ((z.1.2.2.1, z.1.2.1, z.2) : List Key × Addr × Value)) P hr.hd hu ok ⟨by rw [List.length_map, List.length_map], fun i key v hi => ?_⟩ (fun h' hk' x hx => ?_) (by rw [hps, hzl, sizeLine_eq]; omega) fun h' tk hd' hk => ?_
  · have hi' : (Z.map fun z => ((Value.ref z.1.2.1, z.2) : Value × Value))[i]? = some (key, v) := hi
    rw [List.getElem?_map] at hi' ⊢
    cases hzi : Z[i]? with
    | none =>
      rw [hzi] at hi'
      cases hi'
    | some z =>
      rw [hzi] at hi'
      cases hi'
      exact ⟨z.1.2.2.1, z.1.2.1, rfl, rfl⟩
  · obtain ⟨z, hz', rfl⟩ := List.mem_map.mp hx
    obtain ⟨o, items, n, g1, g2, g3, g4⟩ := keyAt z hz'
    exact ⟨o, items, n, hk' _ _ (Nat.ne_of_lt (Heap.lt_size g1)) (fun z => nomatch z) g1, g2, g3, g4⟩
  · rw [stored_all _ [] (by rw [List.nil_append]; exact ndz), List.nil_append] at hd'
    obtain ⟨o, es, ep, g1, g2, g3, g4, _, g6⟩ := hd'
    have np : H s.heap.objs.size = none := J.hok.fresh (Nat.le_refl _)
    have hm : (s.heap.objs.size == sysModules) = false := beq_eq_false_iff_ne.mpr (Nat.ne_of_gt J.big)
    refine ⟨.ref s.heap.objs.size, upd H s.heap.objs.size (.dT (L.map fun q => (q.2.2.1, q.2.2.2))), J.laid (t' := tk) (fun b o e => hk b o (fun z => nomatch z) e) (Nat.le_refl _) ⟨by rw [List.length_map, sizeLine_eq]; omega, hm, _, ?_, o, es, ep, g1, g2, g3, g4, g6⟩, rfl, q _ np⟩
    rw [← hZ, List.map_map]
    exact prt_pair (fun b o e => by rw [upd_ne (ne_of_none e np)]; exact e) hz2
/-- dict(known pairs) is a slot's own dict: name = dict(..) -/
theorem sv_asgDT {B : Cs} {Γ : Env} {A : AE} {te : TE} {i : Nat} (h : Ev B te Γ fun d Γ' => ∃ l : List (List Int × Dt), d = .lst (l.map fun q => .tup [.tup (q.1.map .int), q.2]) ∧ (l.map (·.1)).Nodup ∧ l.length ≤ 1000 ∧ i < Γ'.length ∧ A.nx (Γ'.set i (.t (l.map fun q => (ikey q.1, q.2))))) : Sv B (tAsg (tCB (rDictT B.K) (tCons te tNil)) (gName i)) Γ A := fun gy hy w G H σ D S k1 _ _ _ =>
  h gy hy w G H σ S _ fun v d Γ1 G1 H1 ⟨l, hd, hnd, hl, hi, hp⟩ s1 S1 D1 => by
    subst hd
    obtain ⟨a, xs, e1, h1, h2⟩ := D1
    subst e1
    have pairs : ∀ {l : List (List Int × Dt)} {xs : List V}, DaL B.K G1 xs (l.map fun q => .tup [.tup (q.1.map .int), q.2]) → ∃ L : List PrT, xs = L.map (fun q => .ref q.1) ∧ L.map (·.2.2.1) = l.map (fun q => ikey q.1) ∧ (∀ q ∈ L, SqT B.K H1 q.1 [.ref q.2.1, q.2.2.2] ∧ H1 q.2.1 = some (.tup (q.2.2.1.map kV))) ∧ DaT B.K G1 (L.map fun q => (q.2.2.1, q.2.2.2)) (l.map fun q => (ikey q.1, q.2)) := by
      intro l
      induction l with
      | nil =>
        intro xs h
        cases (show xs = [] from h)
        exact ⟨[], rfl, rfl, (fun q hq => nomatch hq), rfl⟩
      | cons q l ih =>
        intro xs h
        obtain ⟨v, vs, e, ⟨t, ys, ev, ht, y1, r1, ey, ⟨b, zs, eb, hb, hbz⟩, y2, r2, er, hy2, hr2⟩, hr⟩ := h
        have e5 : r2 = [] := hr2
        subst e5 er ey ev eb e
        obtain ⟨L, q1, q2, q3, q4⟩ := ih hr
        refine ⟨(t, b, ikey q.1, y2) :: L, by rw [q1]; rfl, by rw [List.map_cons, List.map_cons, q2], fun p hp => ?_, ?_⟩
        · rcases List.mem_cons.mp hp with e | e
          · subst e
            refine ⟨.inl (.inl (S1.gh _ _ ht)), ?_⟩
            show H1 b = some (.tup ((ikey q.1).map kV))
            rw [ikey_v, ← DaL.ofInts hbz]
            exact S1.gh _ _ hb
          · exact q3 p e
        · exact ⟨y2, _, rfl, hy2, q4⟩
    obtain ⟨L, q1, q2, q3, q4⟩ := pairs h2
    have hln : L.length = l.length := by
      have z := congrArg List.length q2
      rw [List.length_map, List.length_map] at z
      exact z
    refine ⟨a, L, rfl, by rw [← q1]; exact .inl (.inl (S1.gh _ _ h1)), q3, ?_, by rw [hln]; exact hl, fun p np => ?_⟩
    · rw [q2]
      have inj : ∀ x y : List Int, ikey x = ikey y → x = y := fun x y e => by
        unfold ikey at e
        exact List.map_inj_right (fun a b z => Sum.inl.inj z) |>.mp e
      have z : (l.map fun q => ikey q.1) = (l.map (·.1)).map ikey := by
        rw [List.map_map]
        rfl
      rw [z]
      exact List.Pairwise.map _ (fun a b n e => n (inj a b e)) hnd
    · have S2 := S1.ext (Ext.newH (o := .dT (L.map fun q => (q.2.2.1, q.2.2.2))) S1.gh np)
      exact k1 _ G1 _ _ hp s1 (S2.setOwn (p := p) (α := .t _) ⟨p, _, rfl, S1.gh.free np, h0_fresh S1 np, hx_fresh S1 np, upd_same, q4⟩ hi (own_fresh S1 np))
end Cp
/-! Cp18: own lists by index. -/
namespace Cp
open PySem PySem.Spec PyProof.Rows L2
section
variable {B : Cs} {Γ : Env} {Φ : Dt → Env → Prop} {tb : TE} {i : Nat}
theorem ev_ixO {ds0 : List Dt} (h0 : Γ[i]? = some (.l ds0)) (h : Ev B tb Γ fun d2 Γ2 => ∃ ds n d, Γ2[i]? = some (.l ds) ∧ d2 = .int n ∧ atI ds n = some d ∧ Φ d Γ2) : Ev B (tOp (rIx B.K) (tVar i) tb) Γ Φ := fun gy hy w G H σ S Q k => by
  obtain ⟨v, e, z⟩ := ev_ixL (B := B) h0 h gy hy w G H σ S Q k
  refine ⟨v, e, h gy hy w G H σ S _ fun v2 d2 Γ2 G2 H2 ⟨ds, n, d, hi, hn, ha, hp⟩ s2 S2 D2 => ?_⟩
  obtain ⟨p, xs, e1, e2, e3, s3, s4⟩ := look_own S2 hi
  have e0 : σ[i]? = some (some v) := e
  rw [e1] at e0
  cases e0
  subst hn
  have e4 : v2 = .int n := D2
  subst e4
  obtain ⟨u, q1, q2⟩ := atI_da e3 ha
  exact .inl ⟨p, xs, n, u, rfl, rfl, .inl (.inl e2), q1, k u d Γ2 G2 H2 hp s2 S2 q2⟩
end
end Cp
/-! Cp19: try, the body left raw -/
namespace Cp
open PySem PySem.Spec PyProof.Rows L2
theorem try_raw {B : Cs} {Γ : Env} {A : AE} {tb : WX → TS} {cl : List Clause} {Xi : Addr → Dt → Env → Prop} {gy : Hp} {hy : Gh} {G H : Hp} {σ : L2.St} {D : Ends} (hcl : ∀ C d Γ', Xi C d Γ' → ClOk B A cl C d Γ') (w : Wy B gy hy) (S : Sl (B.b gy hy) G H σ Γ)
    (k1 : ∀ Γ' G' H' σ', A.nx Γ' → Same G G' → Sl (B.b gy hy) G' H' σ' Γ' → D.nx σ' H')
    (k2 : ∀ d v Γ' G' H' σ', A.rt d Γ' → Same G G' → Sl (B.b gy hy) G' H' σ' Γ' → Da B.K G' v d → D.rt v H')
    (k3 : ∀ Γ' G' H' σ', A.bk Γ' → Same G G' → Sl (B.b gy hy) G' H' σ' Γ' → D.bk σ' H')
    (k4 : ∀ Γ' G' H' σ', A.ct Γ' → Same G G' → Sl (B.b gy hy) G' H' σ' Γ' → D.ct σ' H')
    (hb : ∀ W, Wy (B.tr W Xi G hy) G hy → Sl (Cs.b (B.tr W Xi G hy) G hy) G H σ Γ → (∀ {G' H' : Hp} {σ' : L2.St} {Γ' : Env}, Sl (Cs.b (B.tr W Xi G hy) G hy) G' H' σ' Γ' → Same G G' ∧ Sl (B.b gy hy) G' H' σ' Γ') → tb W D σ H) :
    tb (wishes B.K B.W D cl) D σ H := by
  have S1 : Sl (Cs.b (B.tr (wishes B.K B.W D cl) Xi G hy) G hy) G H σ Γ := Sl.base (b := B.b gy hy) (Gy := G) (Hy := hy) S (Same.refl G) S.hx S.px fun j β p h1 h2 h3 => (S.ownAt h1 h2 h3).2.1
  have bk : ∀ {G' H' : Hp} {σ' : L2.St} {Γ' : Env}, Sl (Cs.b (B.tr (wishes B.K B.W D cl) Xi G hy) G hy) G' H' σ' Γ' → Same G G' ∧ Sl (B.b gy hy) G' H' σ' Γ' := fun {G' H' σ' Γ'} S' =>
    ⟨S'.gx, Sl.base (b := Cs.b (B.tr (wishes B.K B.W D cl) Xi G hy) G hy) (Gy := gy) (Hy := hy) S' (S.gx.trans S'.gx) S'.hx S'.px fun j β p h1 h2 h3 => (S'.ownAt h1 h2 h3).2.1⟩
  have wok : (B.tr (wishes B.K B.W D cl) Xi G hy).Wok := fun C d dd v Γ' G' H' σ' hx S' hdd D' => by
    obtain ⟨sG, S2⟩ := bk S'
    show wishes B.K B.W D cl (.ref C) (some dd) σ' H'
    have all : ∀ cl' : List Clause, ClOk B A cl' C d Γ' → wishes B.K B.W D cl' (.ref C) (some dd) σ' H' := by
      intro cl'
      induction cl' with
      | nil => exact fun z => w.wok C d dd v Γ' G' H' σ' z (w.back S2) hdd D'
      | cons c0 r ih =>
        obtain ⟨c, o, ts⟩ := c0
        -- what stands while the suite runs: the exception's dict besides
        have dfree : ∀ (j : Nat) β p, Γ'[j]? = some β → β.own = true → σ'[j]? = some (some (.ref p)) → p ≠ dd := fun j β p h1 h2 h3 z => by
          have t := S2.sl j β h1
          cases β with
          | any => cases h2
          | v u => cases h2
          | d d => cases h2
          | l ds =>
            obtain ⟨p', _, a1, _, _, _, a2, _⟩ := t
            rw [h3] at a1
            cases a1
            rw [z, hdd] at a2
            cases a2
          | k ds =>
            obtain ⟨p', _, a1, _, _, _, a2, _⟩ := t
            rw [h3] at a1
            cases a1
            rw [z, hdd] at a2
            cases a2
          | t ds =>
            obtain ⟨p', _, a1, _, _, _, a2, _⟩ := t
            rw [h3] at a1
            cases a1
            rw [z, hdd] at a2
            cases a2
          | box q n =>
            obtain ⟨a1, _, _, _, _, _, _, a2, _⟩ := t
            rw [h3] at a1
            cases a1
            rw [z, hdd] at a2
            cases a2
        let hy2 : Gh := ⟨fun c => if c = dd then some (.xd [(gvn, v)]) else hy.h c, hy.p, fun c q => by
          show (if c = dd then some (HO.xd [(gvn, v)]) else hy.h c) ≠ none
          split
          · exact fun z => nomatch z
          · exact hy.q c q⟩
        have hdd2 : hy2.h dd = some (.xd [(gvn, v)]) := if_pos rfl
        have hsub : Same hy.h hy2.h := fun c o z => by
          show (if c = dd then some (HO.xd [(gvn, v)]) else hy.h c) = some o
          by_cases hc : c = dd
          · rw [if_pos hc]
            have z2 := S2.hx c o z
            rw [hc, hdd] at z2
            exact z2
          · rw [if_neg hc]
            exact z
        have wS : Wy (B.gr G' hy2) G' hy2 := ⟨fun C2 d2 dd2 v2 Γ2 G2 H2 σ2 x2 T2 e2 D2 => w.wok C2 d2 dd2 v2 Γ2 G2 H2 σ2 x2 (Sl.base (b := (B.gr G' hy2).toBs) (Gy := B.Gx) (Hy := B.Hx) T2 ((w.gy.trans S2.gx).trans T2.gx) ((w.hy.trans hsub).trans T2.hx) (fun c q => T2.px c (w.hp c q)) fun j β p h1 h2 h3 => (w.hy.trans hsub).free (T2.ownAt h1 h2 h3).2.1) e2 D2, Same.refl _, Same.refl _, fun _ z => z⟩
        have T2 : Sl (Cs.b (B.gr G' hy2) G' hy2) G' H' σ' Γ' := Sl.base (b := B.b gy hy) (Gy := G') (Hy := hy2) S2 (Same.refl _) (fun c o z => by
          have z' : (if c = dd then some (HO.xd [(gvn, v)]) else hy.h c) = some o := z
          by_cases hc : c = dd
          · rw [if_pos hc] at z'
            rw [hc, hdd]
            exact z'
          · rw [if_neg hc] at z'
            exact S2.hx c o z') S2.px fun j β p h1 h2 h3 => by
              show (if p = dd then some (HO.xd [(gvn, v)]) else hy.h p) = none
              rw [if_neg (dfree j β p h1 h2 h3)]
              exact (S2.ownAt h1 h2 h3).2.1
        have back2 : ∀ {G2 H2 : Hp} {σ2 : L2.St} {Γ2 : Env}, Sl (Cs.b (B.gr G' hy2) G' hy2) G2 H2 σ2 Γ2 → Sl (B.b gy hy) G2 H2 σ2 Γ2 := fun {G2 H2 σ2 Γ2} T => Sl.base (b := Cs.b (B.gr G' hy2) G' hy2) (Gy := gy) (Hy := hy) T (S2.gx.trans T.gx) (hsub.trans T.hx) T.px fun j β p h1 h2 h3 => hsub.free (T.ownAt h1 h2 h3).2.1
        cases o with
        | none =>
          rintro ⟨y, hy', hyes, hno⟩
          refine ⟨y, hy', fun e ea na => ?_, fun e => ih (hno e)⟩
          exact hyes e ea dd v G' hy2 hdd2 D' G' hy2 wS G' H' σ' D T2 (fun Γ2 G2 H2 σ2 h2 s2 T3 => k1 Γ2 G2 H2 σ2 h2 (sG.trans s2) (back2 T3)) (fun d v Γ2 G2 H2 σ2 h2 s2 T3 => k2 d v Γ2 G2 H2 σ2 h2 (sG.trans s2) (back2 T3))
            (fun Γ2 G2 H2 σ2 h2 s2 T3 => k3 Γ2 G2 H2 σ2 h2 (sG.trans s2) (back2 T3)) (fun Γ2 G2 H2 σ2 h2 s2 T3 => k4 Γ2 G2 H2 σ2 h2 (sG.trans s2) (back2 T3))
        | some i =>
          rintro ⟨y, hy', hyes, hno⟩
          refine ⟨y, hy', fun e ea na => ?_, fun e => ih (hno e)⟩
          exact hyes e ea dd v G' hy2 hdd2 D' G' hy2 wS G' H' _ (goneE D i) T2.setV (fun Γ2 G2 H2 σ2 h2 s2 T3 => k1 _ G2 H2 _ h2 (sG.trans s2) ((back2 T3).forget i)) (fun d v Γ2 G2 H2 σ2 h2 s2 T3 => k2 d v Γ2 G2 H2 σ2 h2 (sG.trans s2) (back2 T3))
            (fun Γ2 G2 H2 σ2 h2 s2 T3 => k3 _ G2 H2 _ h2 (sG.trans s2) ((back2 T3).forget i)) (fun Γ2 G2 H2 σ2 h2 s2 T3 => k4 _ G2 H2 _ h2 (sG.trans s2) ((back2 T3).forget i))
    exact all cl (hcl C d Γ' hx)
  exact hb (wishes B.K B.W D cl) ⟨wok, Same.refl _, Same.refl _, fun _ z => z⟩ S1 fun {G' H' σ' Γ'} S' => bk S'
end Cp
/-! Cp20: a def called by keywords alone -/
namespace Cp
open PySem PySem.Spec PyProof.Rows L2
section
variable {X : Cx} {CX : CXT} {k : Nat} {f : Addr} {fd : FuncData} {ps ks : List Str} {sp : Sp} {x : Str} {p pos : Pos} {kws : List Keyword} {tk : TA} {g : List Value → List Value → List Value} {gV : List V → List V → List V}
/-- f(k = v, ..) -/
theorem pe_callK0 {E : XK} (F : FnOk X.prog X.w X.K X.mg X.base CX k f fd ps sp) (hr : Room k X.A) (hm : X.mg x = some (.ref f)) (hk : PySem.W.keepIn X.K (.ref f) = true) (hb : KBn X.K fd ps 0 ks g gV) (hx : Passes CX X E)
    (hkw : PK X kws tk) (hg : Gl X x := by rfl) (hall : (backToKw pos (keywordEach kws X.env)).all (·.1.isSome) = true := by rfl) (hks : (backToKw pos (keywordEach kws X.env)).filterMap (·.1) = ks := by rfl)
    (hdb : (x == ("__debug__" : Str)) = false := by decide)
    (hpl : ((backTo pos (starEach [] X.env)).any (·.1) || (backToKw pos (keywordEach kws X.env)).any (·.1.isNone)) = false := by rfl) :
    PE X (.Call (.Name x p) [] kws pos) (tCallN 0 ks.length sp gV E tNil tk) := by
  refine ⟨fun pins s σ H Q I h => ?_⟩
  refine wpAny_Call_Name_kw (ld_glob I hg hm ?_ hdb)
  refine PySem.W.callWith_KW0 (h₀ := X.base) I.ok.mod.kin hk hall ?_ hpl
  refine thn (hkw.run pos pins s σ H _ I h) fun ws s2 ⟨zs, H2, I2, rz, l1, l2, q2⟩ => ⟨I2.kIn, ?_⟩
  rw [hks]
  exact run_fnN (us := []) (vs := []) F hr hb hx I2 .nil rz rfl l2 q2
end
/-- a def of the top that keeps a promise and may be called by the keywords ks alone -/
def KwOk (P : Program) (w : World) (K : PySem.W.Frag) (mg : Str → Option Value) (base : Heap) (CX : CXT) (k : Nat) (x : Str) (ps ks : List Str) (gV : List V → List V → List V) (sp : Sp) : Prop :=
  ∃ f fd g, mg x = some (.ref f) ∧ PySem.W.keepIn K (.ref f) = true ∧ KBn K fd ps 0 ks g gV ∧ FnOk P w K mg base CX k f fd ps sp
theorem pe_kw {X : Cx} {CX : CXT} {k j : Nat} {ps ks : List Str} {sp : Sp} {x : Str} {p pos : Pos} {kws : List Keyword} {tk : TA} {gV : List V → List V → List V} {E : XK} (T : KwOk X.prog X.w X.K X.mg X.base CX k x ps ks gV sp) (hr : Room j X.A) (hx : Passes CX X E)
    (hkw : PK X kws tk) (hk : k ≤ j := by decide) (hg : Gl X x := by rfl) (hall : (backToKw pos (keywordEach kws X.env)).all (·.1.isSome) = true := by rfl) (hks : (backToKw pos (keywordEach kws X.env)).filterMap (·.1) = ks := by rfl)
    (hdb : (x == ("__debug__" : Str)) = false := by decide)
    (hpl : ((backTo pos (starEach [] X.env)).any (·.1) || (backToKw pos (keywordEach kws X.env)).any (·.1.isNone)) = false := by rfl) :
    PE X (.Call (.Name x p) [] kws pos) (tCallN 0 ks.length sp gV E tNil tk) := by
  obtain ⟨f, fd, g, h1, h2, h3, h4⟩ := T
  exact pe_callK0 (h4.mono hk) hr h1 h2 h3 hx hkw hg hall hks hdb hpl
end Cp
/-! Cp21: promises of defs that raise one of their very arguments. -/
namespace Cp
open PySem PySem.Spec PyProof.Rows L2
/-- a def of data that may raise an exception of the class at C, given the value v -/
def PuV (K : PySem.W.Frag) (n : Nat) (R : List V → List Dt → (Dt → Prop) → (Addr → V → Prop) → Prop) : Sp := fun vs H Q E => ∃ G ds Ψ Ξ, Same G H ∧ DaL K G vs ds ∧ ds.length = n ∧ R vs ds Ψ Ξ ∧ (∀ d, Ψ d → ∀ v G' H', Ext G H G' H' → Da K G' v d → Q v H') ∧
  ∀ C v, Ξ C v → ∀ dd G' H', Ext G H G' H' → H' dd = some (.xd [(gvn, v)]) → E (.ref C) (some dd) H'
def PuVN (K : PySem.W.Frag) (n : Nat) (R : List V → List Dt → (List Dt → Prop) → (Addr → V → Prop) → Prop) : Sp := fun vs H Q E => ∃ G ds Ψ Ξ, Same G H ∧ DaL K G vs ds ∧ ds.length = n ∧ R vs ds Ψ Ξ ∧
  (∀ es, Ψ es → ∀ p xs G' H', Ext G H G' H' → H p = none → G' p = none → H' p = some (.lst xs) → DaL K G' xs es → Q (.ref p) H') ∧
  ∀ C v, Ξ C v → ∀ dd G' H', Ext G H G' H' → H' dd = some (.xd [(gvn, v)]) → E (.ref C) (some dd) H'
theorem PuV.len {K : PySem.W.Frag} {n : Nat} {R : List V → List Dt → (Dt → Prop) → (Addr → V → Prop) → Prop} {vs : List V} {H : Hp} {Q : VK} {E : XK} (h : PuV K n R vs H Q E) : vs.length = n := by
  obtain ⟨G, ds, Ψ, Ξ, s, D, hl, _⟩ := h
  rw [DaL.len D, hl]
theorem PuVN.len {K : PySem.W.Frag} {n : Nat} {R : List V → List Dt → (List Dt → Prop) → (Addr → V → Prop) → Prop} {vs : List V} {H : Hp} {Q : VK} {E : XK} (h : PuVN K n R vs H Q E) : vs.length = n := by
  obtain ⟨G, ds, Ψ, Ξ, s, D, hl, _⟩ := h
  rw [DaL.len D, hl]
/-- of one, two values -/
def v1 {β γ : Type} (f : V → Dt → β → γ → Prop) : List V → List Dt → β → γ → Prop
  | [x], [a], Ψ, Ξ => f x a Ψ Ξ
  | _, _, _, _ => False
def v2 {β γ : Type} (f : V → V → Dt → Dt → β → γ → Prop) : List V → List Dt → β → γ → Prop
  | [x, y], [a, b], Ψ, Ξ => f x y a b Ψ Ξ
  | _, _, _, _ => False
def envV (vs : List V) (m : Nat) : Env := vs.map Arg.v ++ List.replicate m .any
theorem sl_startV {K : PySem.W.Frag} {G H : Hp} {vs : List V} {ds : List Dt} {N : List Str} (s : Same G H) (D : DaL K G vs ds) (hn : ds.length ≤ N.length) (hx : Gh) (h1 : Same hx.h H) (h2 : ∀ c, ¬ hx.p c) : Sl ⟨K, G, H, G, hx⟩ G H (L2.start N vs) (envV vs (N.length - ds.length)) := by
  have S := sl_start (N := N) s D hn hx h1 h2
  have hl := DaL.len D
  have own : ∀ {i : Nat} {α : Arg}, (envV vs (N.length - ds.length))[i]? = some α → α.own = false := fun {i α} q => by
    unfold envV at q
    rcases List.mem_append.mp (List.mem_of_getElem? q) with z | z
    · obtain ⟨d, _, e⟩ := List.mem_map.mp z
      rw [← e]
      rfl
    · rw [(List.mem_replicate.mp z).2]
      rfl
  refine ⟨S.gx, S.hx, S.px, S.h1, S.gh, S.ff, ?_, fun i α q => ?_, fun i j α β p q1 q2 => by rw [own q1] at q2; cases q2⟩
  · unfold envV L2.start
    rw [List.length_append, List.length_append, List.length_map, List.length_map, List.length_replicate, List.length_replicate, hl]
  · unfold envV at q
    by_cases hi : i < vs.length
    · rw [List.getElem?_append_left (by rw [List.length_map]; exact hi), List.getElem?_map] at q
      rw [start_get (by rw [hl]; exact hn), if_pos hi]
      cases z : vs[i]? with
      | none =>
        rw [z] at q
        cases q
      | some d =>
        rw [z] at q
        cases q
        rfl
    · rw [List.getElem?_append_right (by rw [List.length_map]; omega), List.getElem?_replicate] at q
      split at q
      · cases q
        trivial
      · cases q
/-- what is wanted of an exception that was given v -/
def WV (B : Cs) (n : Nat) (Ξ : Addr → V → Prop) : Prop := ∀ C v, Ξ C v → ∀ dd Γ G H σ, Γ.length = n → Sl B.toBs G H σ Γ → H dd = some (.xd [(gvn, v)]) → B.W (.ref C) (some dd) σ H
abbrev xW (E : XK) : WX := fun cls d _ H => E cls d H
theorem pv_start {K : PySem.W.Frag} {n : Nat} {R : List V → List Dt → (Dt → Prop) → (Addr → V → Prop) → Prop} {N : List Str} {t : TS} {vs : List V} {H : Hp} {Q : VK} {E : XK} (h : PuV K n R vs H Q E) (hn : n ≤ N.length)
    (body : ∀ (r : Rs) (ds : List Dt) (Ψ : Dt → Prop) (Ξ : Addr → V → Prop), ds.length = n → R vs ds Ψ Ξ → DaL K r.Gx vs ds → (∀ m, WV (r.at K (xW E) noX) m Ξ) → Sv (r.at K (xW E) noX) t (envV vs (N.length - n)) { nx := fun _ => Ψ .non, rt := fun d _ => Ψ d }) :
    t { nx := fun _ H' => Q .non H', rt := Q } (L2.start N vs) H := by
  obtain ⟨G, ds, Ψ, Ξ, s, D, hl, hR, q, qx⟩ := h
  have S := sl_startV (N := N) s D (by rw [hl]; exact hn) (ghAll H) (Same.refl H) fun _ z => z
  rw [hl] at S
  have fin : ∀ {B : Cs} {G' H' : Hp} {σ' : L2.St} {Γ' : Env}, B.G0 = G → B.H0 = H → Sl (Cs.b B G (ghAll H)) G' H' σ' Γ' → Ext G H G' H' := fun {B G' H' σ' Γ'} e1 e2 S' => ⟨S'.gx, S'.hx, S'.gh, fun c o z => by rw [← e1, ← e2]; exact S'.ff c o z⟩
  have w : Wy (Rs.at ⟨G, H, G, ghAll H⟩ K (xW E) noX) G (ghAll H) := ⟨fun _ _ _ _ _ _ _ _ z => z.elim, Same.refl _, Same.refl _, fun _ z => z⟩
  have ww : ∀ m, WV (Rs.at ⟨G, H, G, ghAll H⟩ K (xW E) noX) m Ξ := fun m C v hx dd Γ' G' H' σ' _ S' e => qx C v hx dd G' H' (fin (B := Rs.at ⟨G, H, G, ghAll H⟩ K (xW E) noX) rfl rfl S') e
  exact body ⟨G, H, G, ghAll H⟩ ds Ψ Ξ hl hR D ww G (ghAll H) w G H (L2.start N vs) _ S (fun Γ' G' H' σ' hp _ S' => q _ hp _ G' H' (fin rfl rfl S') rfl) (fun d v Γ' G' H' σ' hp _ S' D' => q d hp v G' H' (fin rfl rfl S') D') (fun _ _ _ _ z => z.elim) (fun _ _ _ _ z => z.elim)
theorem pvn_start {K : PySem.W.Frag} {n : Nat} {R : List V → List Dt → (List Dt → Prop) → (Addr → V → Prop) → Prop} {N : List Str} {t : TS} {vs : List V} {H : Hp} {Q : VK} {E : XK} (h : PuVN K n R vs H Q E) (hn : n ≤ N.length)
    (body : ∀ (r : Rs) (ds : List Dt) (Ψ : List Dt → Prop) (Ξ : Addr → V → Prop), ds.length = n → R vs ds Ψ Ξ → DaL K r.Gx vs ds → (∀ m, WV (r.at K (xW E) noX) m Ξ) → SvN (r.at K (xW E) noX) t (envV vs (N.length - n)) fun d _ => Ψ d) :
    t { nx := fun _ H' => Q .non H', rt := Q } (L2.start N vs) H := by
  obtain ⟨G, ds, Ψ, Ξ, s, D, hl, hR, q, qx⟩ := h
  have S := sl_startV (N := N) s D (by rw [hl]; exact hn) (ghAll H) (Same.refl H) fun _ z => z
  rw [hl] at S
  have fin : ∀ {B : Cs} {G' H' : Hp} {σ' : L2.St} {Γ' : Env}, B.G0 = G → B.H0 = H → Sl (Cs.b B G (ghAll H)) G' H' σ' Γ' → Ext G H G' H' := fun {B G' H' σ' Γ'} e1 e2 S' => ⟨S'.gx, S'.hx, S'.gh, fun c o z => by rw [← e1, ← e2]; exact S'.ff c o z⟩
  have w : Wy (Rs.at ⟨G, H, G, ghAll H⟩ K (xW E) noX) G (ghAll H) := ⟨fun _ _ _ _ _ _ _ _ z => z.elim, Same.refl _, Same.refl _, fun _ z => z⟩
  have ww : ∀ m, WV (Rs.at ⟨G, H, G, ghAll H⟩ K (xW E) noX) m Ξ := fun m C v hx dd Γ' G' H' σ' _ S' e => qx C v hx dd G' H' (fin (B := Rs.at ⟨G, H, G, ghAll H⟩ K (xW E) noX) rfl rfl S') e
  exact body ⟨G, H, G, ghAll H⟩ ds Ψ Ξ hl hR D ww G (ghAll H) w G H (L2.start N vs) _ S fun p xs es Γ' G' H' σ' hp _ S' N => q es hp p xs G' H' (fin rfl rfl S') N.h0 N.g N.st N.da
section
variable {B : Cs} {Γ : Env} {Φ : Dt → Env → Prop} {Θ : List Dt → Env → Prop} {i j n : Nat} {x y : V} {d e : Dt} {Ξ : Addr → V → Prop} {ta : TA} {E : XK}
theorem da_gx {gy G H : Hp} {hy : Gh} {σ : L2.St} (w : Wy B gy hy) (S : Sl (B.b gy hy) G H σ Γ) (D : Da B.K B.Gx x d) : Da B.K G x d := Da.up (w.gy.trans S.gx) _ D
theorem ev_varV (h : Γ[i]? = some (.v x)) (D : Da B.K B.Gx x d) (q : Φ d Γ) : Ev B (tVar i) Γ Φ := fun gy hy w G H σ S Q k =>
  ⟨x, S.sl i _ h, k x d Γ G H q (Same.refl G) S (da_gx w S D)⟩
theorem sv_raiseV {P : Program} {w : World} {base : Heap} {A : AE} {nm : Str} {mg : Str → Option Value} {C : Addr} (T : ErrOk P w B.K mg base nm C) (hw : WV B Γ.length Ξ) (h : Γ[i]? = some (.v x)) (hx : Ξ C x) :
    Sv B (fun _ σ H => tMkO C (spInit B.K) [] (tCons (tVar i) tNil) σ H fun cls d H' => B.W cls d σ H') Γ A := by
  obtain ⟨f, T'⟩ := T.t
  refine fun gy hy w G H σ D S _ _ _ _ => ⟨x, S.sl i _ h, (by show 1 ≤ 1000; decide), fun a na => ⟨a, C, x, rfl, T'.o, T'.n, upd_same, fun dx nd ne => ⟨rfl, dx, [(gvn, x)], upd_same, by rw [upd_ne ne]; exact upd_same, by rw [upd_ne ne] at nd; exact nd, ?_⟩⟩⟩
  have nd1 : H dx = none := by
    rw [upd_ne ne] at nd
    exact nd
  have sm : Same H (upd (del (upd (upd (upd H a (exo a C none)) dx (exd dx [(gvn, x)])) a (exo a C (some dx))) a) dx (.xd [(gvn, x)])) := fun c o z => by
    have c1 : c ≠ a := ne_of_none z na
    have c2 : c ≠ dx := ne_of_none z nd1
    rw [upd_ne c2, del_ne c1, upd_ne c1, upd_ne c2, upd_ne c1]
    exact z
  exact hw C x hx dx Γ G _ σ rfl (w.back (S.ext ⟨Same.refl _, sm, S.gh.trans sm, fun _ _ z => .inl z⟩)) upd_same
theorem ev_callV1 {R : List V → List Dt → (Dt → Prop) → (Addr → V → Prop) → Prop} (hw : WV B Γ.length Ξ) (D : Da B.K B.Gx x d) (h : Γ[i]? = some (.v x)) (hR : R [x] [d] (fun d => Φ d Γ) Ξ) : Ev B (tCallS (PuV B.K 1 R) (WE B.W) (tCons (tVar i) tNil)) Γ Φ := fun gy hy w G H σ S Q k =>
  ⟨x, S.sl i _ h, G, [d], _, Ξ, S.gh, ⟨x, [], rfl, da_gx w S D, rfl⟩, rfl, hR, fun d hp v G2 H2 e D2 => k v d Γ G2 H2 hp e.g (S.ext e) D2,
    fun C v hx dd G2 H2 e e2 => hw C v hx dd Γ G2 H2 σ rfl (w.back (S.ext e)) e2⟩
theorem ev_callV2 {R : List V → List Dt → (Dt → Prop) → (Addr → V → Prop) → Prop} (hw : WV B Γ.length Ξ) (D : Da B.K B.Gx x d) (De : Da B.K B.Gx y e) (h : Γ[i]? = some (.v x)) (h2 : Γ[j]? = some (.v y)) (hR : R [x, y] [d, e] (fun d => Φ d Γ) Ξ) : Ev B (tCallS (PuV B.K 2 R) (WE B.W) (tCons (tVar i) (tCons (tVar j) tNil))) Γ Φ := fun gy hy w G H σ S Q k =>
  ⟨x, S.sl i _ h, y, S.sl j _ h2, G, [d, e], _, Ξ, S.gh, ⟨x, [y], rfl, da_gx w S D, y, [], rfl, da_gx w S De, rfl⟩, rfl, hR, fun d hp v G2 H2 e D2 => k v d Γ G2 H2 hp e.g (S.ext e) D2,
    fun C v hx dd G2 H2 e e2 => hw C v hx dd Γ G2 H2 σ rfl (w.back (S.ext e)) e2⟩
theorem en_callV1 {R : List V → List Dt → (List Dt → Prop) → (Addr → V → Prop) → Prop} (hw : WV B Γ.length Ξ) (D : Da B.K B.Gx x d) (h : Γ[i]? = some (.v x)) (hR : R [x] [d] (fun d => Θ d Γ) Ξ) : EvN B (tCallS (PuVN B.K 1 R) (WE B.W) (tCons (tVar i) tNil)) Γ Θ := fun gy hy w G H σ S Q k =>
  ⟨x, S.sl i _ h, G, [d], _, Ξ, S.gh, ⟨x, [], rfl, da_gx w S D, rfl⟩, rfl, hR, fun es hp p xs G2 H2 e n0 n1 n2 D2 => k p xs es Γ G2 H2 hp e.g (S.ext e) (newL S n0 n1 n2 D2),
    fun C v hx dd G2 H2 e e2 => hw C v hx dd Γ G2 H2 σ rfl (w.back (S.ext e)) e2⟩
/-- a def that may raise, where it does not -/
theorem ev_callV01 {R : List V → List Dt → (Dt → Prop) → (Addr → V → Prop) → Prop} (h : EvA B ta Γ fun ds Γ' => ∃ a, ds = [a] ∧ ∀ x, R [x] [a] (fun d => Φ d Γ') fun _ _ => False) : Ev B (tCall (PuV B.K 1 R) [] E ta) Γ Φ := fun gy hy w G H σ S Q k =>
  h gy hy w G H σ S _ fun vs ds Γ1 G1 H1 ⟨a, hl, hR⟩ s1 S1 D1 => by
    subst hl
    obtain ⟨x, r, rfl, hx, hr⟩ := D1
    cases (show r = [] from hr)
    exact ⟨G1, [a], _, _, S1.gh, ⟨x, [], rfl, hx, rfl⟩, rfl, hR x, fun d hp v G2 H2 e D2 => k v d Γ1 G2 H2 hp (s1.trans e.g) (S1.ext e) D2, fun _ _ z => z.elim⟩
theorem ev_callV02 {R : List V → List Dt → (Dt → Prop) → (Addr → V → Prop) → Prop} (h : EvA B ta Γ fun ds Γ' => ∃ a b, ds = [a, b] ∧ ∀ x y, R [x, y] [a, b] (fun d => Φ d Γ') fun _ _ => False) : Ev B (tCall (PuV B.K 2 R) [] E ta) Γ Φ := fun gy hy w G H σ S Q k =>
  h gy hy w G H σ S _ fun vs ds Γ1 G1 H1 ⟨a, b, hl, hR⟩ s1 S1 D1 => by
    subst hl
    obtain ⟨x, r, rfl, hx, y, r2, rfl, hy, hr⟩ := D1
    cases (show r2 = [] from hr)
    exact ⟨G1, [a, b], _, _, S1.gh, ⟨x, [y], rfl, hx, y, [], rfl, hy, rfl⟩, rfl, hR x y, fun d hp v G2 H2 e D2 => k v d Γ1 G2 H2 hp (s1.trans e.g) (S1.ext e) D2, fun _ _ z => z.elim⟩
theorem en_callV01 {R : List V → List Dt → (List Dt → Prop) → (Addr → V → Prop) → Prop} (h : EvA B ta Γ fun ds Γ' => ∃ a, ds = [a] ∧ ∀ x, R [x] [a] (fun d => Θ d Γ') fun _ _ => False) : EvN B (tCall (PuVN B.K 1 R) [] E ta) Γ Θ := fun gy hy w G H σ S Q k =>
  h gy hy w G H σ S _ fun vs ds Γ1 G1 H1 ⟨a, hl, hR⟩ s1 S1 D1 => by
    subst hl
    obtain ⟨x, r, rfl, hx, hr⟩ := D1
    cases (show r = [] from hr)
    exact ⟨G1, [a], _, _, S1.gh, ⟨x, [], rfl, hx, rfl⟩, rfl, hR x, fun es hp p xs G2 H2 e n0 n1 n2 D2 => k p xs es Γ1 G2 H2 hp (s1.trans e.g) (S1.ext e) (newL S1 n0 n1 n2 D2), fun _ _ z => z.elim⟩
end
section
variable {K : PySem.W.Frag} {G : Hp}
theorem da1 {vs : List V} {a : Dt} (h : DaL K G vs [a]) : ∃ x, vs = [x] ∧ Da K G x a := by
  obtain ⟨x, r, rfl, hx, hr⟩ := h
  cases (show r = [] from hr)
  exact ⟨x, rfl, hx⟩
theorem da2 {vs : List V} {a b : Dt} (h : DaL K G vs [a, b]) : ∃ x y, vs = [x, y] ∧ Da K G x a ∧ Da K G y b := by
  obtain ⟨x, r, rfl, hx, y, r2, rfl, hy, hr⟩ := h
  cases (show r2 = [] from hr)
  exact ⟨x, y, rfl, hx, hy⟩
end
end Cp
/-! Cp22: == and != where both may be empty dicts; repr of data, where no repr is under way; defs that are called where none is. -/
namespace Cp
open PySem PySem.Spec PyProof.Rows L2
/-! ### == and != -/
def rEqX (K : PySem.W.Frag) : R2 := fun x y H Q => rEqD K x y H Q ∨ rEqDA x y H Q
def rNeX (K : PySem.W.Frag) : R2 := fun x y H Q => rNeD K x y H Q ∨ rNeDA x y H Q
theorem kEqX {X : Cx} {K : PySem.W.Frag} {k : Nat} (e : X.K = K) (hr : Room k X.A) : OpR X (compareOp .Eq) (rEqX K) := fun pins s σ H x y v u Q I rx ry h =>
  h.elim (fun h => kEqD e hr pins s σ H x y v u Q I rx ry h) fun h => op_eq_dictA (by have := hr.un; omega) pins s σ H x y v u Q I rx ry h
theorem kNeX {X : Cx} {K : PySem.W.Frag} {k : Nat} (e : X.K = K) (hr : Room k X.A) : OpR X (compareOp .NotEq) (rNeX K) := fun pins s σ H x y v u Q I rx ry h =>
  h.elim (fun h => kNeD e hr pins s σ H x y v u Q I rx ry h) fun h => op_ne_dictA (by have := hr.un; omega) pins s σ H x y v u Q I rx ry h
/-! ### repr -/
/-- data that repr shows within the model's bounds -/
def shows (d : PyData) : Prop := d.showable = true ∧ d.hasDict = false ∧ d.depth ≤ 64 ∧ d.shown.length ≤ sizeLine
def rReprD (K : PySem.W.Frag) : List V → Hp → VK → Prop := fun vs H Q => ∃ x, vs = [x] ∧ ((∃ d, Dp K H x d ∧ shows d ∧ Q (.str d.shown) H) ∨ ∃ a, x = .ref a ∧ H a = some (.dK []) ∧ Q (.str (PyData.dict []).shown) H)
theorem kReprD {X : Cx} {K : PySem.W.Frag} {k : Nat} (e : X.K = K) (hr : Room k X.A) (hg : X.A.guards = some []) : CallR X (.builtin "repr") (rReprD K) := by
  subst e
  intro pins s σ H vs us Q J r h
  obtain ⟨x, rfl, h⟩ := h
  have hu := hr.un
  obtain ⟨u, rfl, ru⟩ : ∃ u, us = [u] ∧ RelV x u := by
    cases r with
    | cons r1 r2 =>
      cases r2
      exact ⟨_, rfl, r1⟩
  rcases h with ⟨d, hd, ⟨h1, h2, h3, h4⟩, q⟩ | ⟨a, rfl, ha, q⟩
  · obtain ⟨as, hread⟩ := Dp.reads J d x u hd ru
    cases u with
    | ref a =>
      exact repr_of_reads' hread h1 (fun z => by rw [h2] at z; cases z) hg (by omega) (fun _ _ z => z) (fun h' u' tk hk => ⟨.str d.shown, H, J.kept hk, ⟨_, rfl⟩, q⟩) h4
    | none =>
      cases hread
      exact P.repr_of_none ⟨.str _, H, J.tok _, ⟨_, rfl⟩, q⟩
    | bool b =>
      cases hread
      exact P.repr_of_bool ⟨.str _, H, J.tok _, ⟨_, rfl⟩, q⟩
    | int i t =>
      cases hread
      exact P.repr_of_int (of_decide_eq_true h1) ⟨.str _, H, J.tok _, ⟨_, rfl⟩, q⟩
    | str y t =>
      cases hread
      exact P.repr_of_str ⟨.str _, H, J.tok _, ⟨_, rfl⟩, q⟩ h4
    | _ => cases hread
  · obtain rfl : u = Value.ref a := ru
    obtain ⟨_, ha2, vs, rv, o, es, ep, g1, g2, g3, g4, g5⟩ := (show ObjOk X.prog X.w H s.heap a (.dK []) from J.hok a _ ha)
    cases rv
    have e0 : es.toList = [] := by
      cases hes : es.toList with
      | nil => rfl
      | cons z r =>
        have g6 := g5.1
        rw [hes] at g6
        cases g6
    have hread : Reads s.heap (.ref a) (.dict []) (a :: [] ++ []) := .dict g1 g2.1 g3 (by rw [e0]; exact .nil) (by rw [e0]; exact .nil)
    have hm : sysModules ∉ (a :: [] ++ [] : List Addr) := fun z => by
      have z2 : sysModules = a := by simpa using z
      rw [z2] at ha2
      simp at ha2
    exact repr_of_reads' hread (by rfl) (fun _ => hm) hg (by show X.A.units + (0 + 1 + 1) < cLine; omega) (fun _ _ z => z) (fun h' u' tk hk => ⟨.str _, H, J.kept hk, ⟨_, rfl⟩, q⟩) (by decide +kernel)
/-! ### defs called where no repr is under way -/
structure FnG (P : Program) (w : World) (K : PySem.W.Frag) (mg : Str → Option Value) (base : Heap) (CX : CXT) (k : Nat) (f : Addr) (fd : FuncData) (ps : List Str) (sp : Sp) : Prop where
  len : ∀ vs H Q E, sp vs H Q E → vs.length = ps.length
  run : ∀ (B : Around) (below : List PySem.Env) (st : Shared) (H : Hp) (ag : Args) (us : List Value) (vs : List V) (Q : VK) (E : XK), B.guards = some [] → Room k B → Env0 P w K mg base B below st H → BindsTo st fd ag (ps.zip us) → Vals vs us → sp vs H Q E →
    codeAny (model P w) B (.call (.ref f) ag) (CR CX below P w H st Q E) st
theorem FnG.of_ok {P : Program} {w : World} {K : PySem.W.Frag} {mg : Str → Option Value} {base : Heap} {CX : CXT} {k : Nat} {f : Addr} {fd : FuncData} {ps : List Str} {sp : Sp} (F : FnOk P w K mg base CX k f fd ps sp) : FnG P w K mg base CX k f fd ps sp :=
  ⟨F.len, fun B below st H ag us vs Q E _ hr e0 hb hv hs => F.run B below st H ag us vs Q E hr e0 hb hv hs⟩
theorem fnG_of {CX : CXT} {P : Program} {w : World} {K : PySem.W.Frag} {mg : Str → Option Value} {base : Heap} {k : Nat} {f : Addr} {name qual : Str} {params : Arguments} {body : List Stmt} {scope : Scope} {dV kV doc pm cdv ct oc : Value} {an od : Option Addr}
    {osl : Array (Option Value)} {N ps : List Str} {sp : Sp} (lk : K.lookup f = some ⟨oc, od, .func (PySem.W.fnOf name qual params body scope dV kV doc pm an cdv ct), osl⟩) (hcd : PySem.W.codeIn K cdv qual = true) (S : FnScope N ps scope)
    (len : ∀ vs H Q E, sp vs H Q E → vs.length = ps.length)
    (hbody : ∀ (B : Around) (below : List PySem.Env) (st : Shared) (H : Hp) (vs : List V) (Q : VK) (E : XK), (B.deeper (envOfC qual scope st.heap.objs.size f cdv)).guards = some [] → Room k (B.deeper (envOfC qual scope st.heap.objs.size f cdv)) → sp vs H Q E →
      ∃ t, PSs (cxOf CX P w K mg base N qual scope f cdv B below st H E) body t ∧ t { nx := fun _ H' => Q .non H', rt := Q } (L2.start N vs) H) :
    FnG P w K mg base CX (k + 1) f (PySem.W.fnOf name qual params body scope dV kV doc pm an cdv ct) ps sp := by
  refine ⟨len, fun B below st H ag us vs Q E hgu hr e0 hb rv hsp => ?_⟩
  have lenV := len _ _ _ _ hsp
  have inK : K.In st.heap := e0.mod.kin.keeps fun b o z => (e0.bs b o z).1
  have noLim : st.heap.NoLimit := e0.mod.nolimit.keeps fun b o z => (e0.bs b o z).1
  have kinds : ∀ y ∈ ps.zip us, scope.names.lookup y.1 = some .local ∨ (scope.names.lookup y.1 = some .cell ∧ ((cellsFrom (st.heap.objs.size + 1) scope.names []).lookup y.1).isSome = true) := fun ⟨n, v⟩ hy =>
    (S.par n (List.of_mem_zip hy).1).elim .inl fun q => .inr ⟨q, PySem.W.cellsFrom_some _ _ _ (.inl q)⟩
  refine codeAny_call_function hr.depth (inK _ _ lk) rfl S.co S.gen rfl (PySem.W.codeRec_of inK hcd) (hb _ _ _ _ ?_)
  refine wpAny_newFunctionEnv_cells S.kind kinds fun env he s1 x => ?_
  subst he
  refine ⟨noLim.keeps x.toInCall.keep, codeAny_func ?_⟩
  obtain ⟨t, pt, run⟩ := hbody B below st H vs Q E hgu (hr.deeper _) hsp
  have inv : Inv (cxOf CX P w K mg base N qual scope f cdv B below st H E) [] (L2.start N vs) H s1 := inv_start S hr.hd e0 lenV rv x
  refine wpAny_mono (pt.run [] s1 (L2.start N vs) H _ inv run) (fun fl s' hs => ?_) fun _ _ z => z
  have out : ∀ {σ' : L2.St} {H' : Hp} {v : V} {u : Value}, Inv (cxOf CX P w K mg base N qual scope f cdv B below st H E) [] σ' H' s' → RelV v u → Q v H' → CE below P w H st Q u s' :=
    fun {σ' H' v u} J rv q => ⟨v, H', J.os, J.bare, J.base, J.hok, rv, q⟩
  cases fl with
  | ret u =>
    obtain ⟨v, σ', H', J, rv, q⟩ := hs
    exact out J rv q
  | next =>
    obtain ⟨σ', H', J, q⟩ := hs
    exact out (v := V.non) (u := Value.none) J rfl q
  | brk =>
    obtain ⟨_, _, _, q⟩ := hs
    exact q.elim
  | cont =>
    obtain ⟨_, _, _, q⟩ := hs
    exact q.elim
theorem funG {P : Program} {w : World} {K : PySem.W.Frag} {mg : Str → Option Value} {base : Heap} {x qual : Str} {st : Stmt} {f : Addr} {fd : FuncData} {N ps : List Str} {k : Nat} {sp : Sp} (F : Fun K x qual st f fd) (S : FnScope N ps (defScope st)) (len : ∀ vs H Q E, sp vs H Q E → vs.length = ps.length)
    (hbody : ∀ (cdv : Value) (A : Around) (outer : List PySem.Env) (s : Shared) (H : Hp) (vs : List V) (Q : VK) (E : XK), (A.deeper (envOfC qual (defScope st) s.heap.objs.size f cdv)).guards = some [] → Room k (A.deeper (envOfC qual (defScope st) s.heap.objs.size f cdv)) → sp vs H Q E →
      ∃ t, PSs (cxOf CX0 P w K mg base N qual (defScope st) f cdv A outer s H E).nox (defBody st) t ∧ t { nx := fun _ H' => Q .non H', rt := Q } (L2.start N vs) H) : FnG P w K mg base CX0 (k + 1) f fd ps sp := by
  obtain ⟨oc, od, kV, doc, pm, an, cdv, ct, osl, rfl, lk, hcd⟩ := F.ex
  refine fnG_of lk hcd S len fun A outer s H vs Q E hg hr hsp => ?_
  obtain ⟨t, ht, hq⟩ := hbody cdv A outer s H vs Q E hg hr hsp
  exact ⟨t, ht.nox, hq⟩
def DefG (P : Program) (w : World) (K : PySem.W.Frag) (mg : Str → Option Value) (base : Heap) (CX : CXT) (k : Nat) (x : Str) (ps : List Str) (sp : Sp) : Prop :=
  ∃ f fd, mg x = some (.ref f) ∧ PySem.W.keepIn K (.ref f) = true ∧ Binds K fd ps [] ∧ FnG P w K mg base CX k f fd ps sp
theorem TopD.okG {P : Program} {w : World} {K : PySem.W.Frag} {mg : Str → Option Value} {base : Heap} {CX : CXT} {k : Nat} {x : Str} {st : Stmt} {ps : List Str} {f : Addr} {fd : FuncData} {sp : Sp} (T : TopD K mg x st ps f fd) (h : FnG P w K mg base CX k f fd ps sp) : DefG P w K mg base CX k x ps sp :=
  ⟨f, fd, T.g, T.fn.kp, T.b, h⟩
section
variable {X : Cx} {CX : CXT} {k j : Nat} {ps : List Str} {sp : Sp} {E : XK} {x : Str} {p pos : Pos} {e : Expr} {es : List Expr} {t : TA}
/-- f(e, ..), no repr under way -/
theorem pe_dG (T : DefG X.prog X.w X.K X.mg X.base CX k x ps sp) (hgu : X.A.guards = some []) (hr : Room j X.A) (hx : Passes CX X E) (ha : PA X (e :: es) t) (hk : k ≤ j := by decide) (hg : Gl X x := by rfl) (hdb : (x == ("__debug__" : Str)) = false := by decide) (he : starEach (e :: es) X.env = (false, eval e X.env) :: starEach es X.env := by rfl) (hpl : (backTo pos (starEach es X.env)).any (·.1) = false := by rfl) :
    PE X (.Call (.Name x p) (e :: es) [] pos) (tCall sp [] E t) := by
  obtain ⟨f, fd, h1, h2, h3, h4⟩ := T
  refine ⟨fun pins s σ H Q I h => wpAny_Call_Name_kw (ld_glob I hg h1 ?_ hdb)⟩
  refine PySem.W.callWith_K (h₀ := X.base) I.ok.mod.kin h2 (thn (ha.run pos pins s σ H _ I h) fun us s1 ⟨vs, H1, I1, r, q⟩ => ⟨I1.kIn, ?_⟩) he hpl
  have q' : sp vs H1 Q E := by
    have z : sp (vs ++ []) H1 Q E := q
    rw [List.append_nil] at z
    exact z
  have lenU : us.length = ps.length := by
    rw [← r.length]
    exact h4.len _ _ _ _ q'
  have b3 := h3 s1 us I1.kIn (by rw [List.append_nil]; exact lenU)
  rw [List.append_nil] at b3
  refine wpAny_call (codeAny_mono (h4.run X.A X.stack s1 H1 ⟨us, []⟩ us vs Q E hgu (hr.mono hk) I1.env0 b3 r q') fun r s' hq => ?_)
  match r, hq with
  | .error e, hq => exact hx pins σ H1 s1 e s' I1 hq
  | .ok (.ret u), hq => exact I1.after hq
  | .ok .next, hq => exact hq.elim
  | .ok .brk, hq => exact hq.elim
  | .ok .cont, hq => exact hq.elim
end
end Cp
/-! Cp23: calls by keywords over environments; back to what was known before. -/
namespace Cp
open PySem PySem.Spec PyProof.Rows L2
def kwI (_ zs : List V) : List V := zs
def kwS (_ zs : List V) : List V := match zs with
  | [a, b] => [b, a]
  | l => l
section
variable {B : Cs} {Γ : Env} {Φ : Dt → Env → Prop} {Θ : List Dt → Env → Prop} {ta : TA} {E : XK}
theorem ev_kw1 {R : List V → List Dt → (Dt → Prop) → (Addr → V → Prop) → Prop} (h : EvA B ta Γ fun ds Γ' => ∃ a, ds = [a] ∧ ∀ x, R [x] [a] (fun d => Φ d Γ') fun _ _ => False) : Ev B (tCallN 0 1 (PuV B.K 1 R) kwI E tNil ta) Γ Φ := fun gy hy w G H σ S Q k =>
  h gy hy w G H σ S _ fun vs ds Γ1 G1 H1 ⟨a, hl, hR⟩ s1 S1 D1 => by
    subst hl
    obtain ⟨x, r, rfl, hx, hr⟩ := D1
    cases (show r = [] from hr)
    exact ⟨rfl, rfl, G1, [a], _, _, S1.gh, ⟨x, [], rfl, hx, rfl⟩, rfl, hR x, fun d hp v G2 H2 e D2 => k v d Γ1 G2 H2 hp (s1.trans e.g) (S1.ext e) D2, fun _ _ z => z.elim⟩
theorem ev_kwS {R : List V → List Dt → (Dt → Prop) → (Addr → V → Prop) → Prop} (h : EvA B ta Γ fun ds Γ' => ∃ a b, ds = [b, a] ∧ ∀ x y, R [x, y] [a, b] (fun d => Φ d Γ') fun _ _ => False) : Ev B (tCallN 0 2 (PuV B.K 2 R) kwS E tNil ta) Γ Φ := fun gy hy w G H σ S Q k =>
  h gy hy w G H σ S _ fun vs ds Γ1 G1 H1 ⟨a, b, hl, hR⟩ s1 S1 D1 => by
    subst hl
    obtain ⟨y, r, rfl, hy, x, r2, rfl, hx, hr⟩ := D1
    cases (show r2 = [] from hr)
    exact ⟨rfl, rfl, G1, [a, b], _, _, S1.gh, ⟨x, [y], rfl, hx, y, [], rfl, hy, rfl⟩, rfl, hR x y, fun d hp v G2 H2 e D2 => k v d Γ1 G2 H2 hp (s1.trans e.g) (S1.ext e) D2, fun _ _ z => z.elim⟩
theorem en_kw1 {R : List V → List Dt → (List Dt → Prop) → (Addr → V → Prop) → Prop} (h : EvA B ta Γ fun ds Γ' => ∃ a, ds = [a] ∧ ∀ x, R [x] [a] (fun d => Θ d Γ') fun _ _ => False) : EvN B (tCallN 0 1 (PuVN B.K 1 R) kwI E tNil ta) Γ Θ := fun gy hy w G H σ S Q k =>
  h gy hy w G H σ S _ fun vs ds Γ1 G1 H1 ⟨a, hl, hR⟩ s1 S1 D1 => by
    subst hl
    obtain ⟨x, r, rfl, hx, hr⟩ := D1
    cases (show r = [] from hr)
    exact ⟨rfl, rfl, G1, [a], _, _, S1.gh, ⟨x, [], rfl, hx, rfl⟩, rfl, hR x, fun es hp p xs G2 H2 e n0 n1 n2 D2 => k p xs es Γ1 G2 H2 hp (s1.trans e.g) (S1.ext e) (newL S1 n0 n1 n2 D2), fun _ _ z => z.elim⟩
end
theorem seq_run {t u : TS} {D : Ends} {σ : L2.St} {H : Hp} (h : t { D with nx := u D } σ H) : tSeq t u D σ H := h
theorem ifs_run {c : TT} {t u : TS} {D : Ends} {σ : L2.St} {H : Hp} (h : c σ H fun b H1 => if b = true then t D σ H1 else u D σ H1) : tIfS c t u D σ H := h
theorem asg_run {te : TE} {g : TG} {D : Ends} {σ : L2.St} {H : Hp} (h : te σ H fun x H1 => g x σ H1 D.nx) : tAsg te g D σ H := h
theorem lst_run {ta : TA} {σ : L2.St} {H : Hp} {Q : VK} (h : ta σ H fun vs H1 => vs.length ≤ sizeLine ∧ ∀ p, H1 p = none → Q (.ref p) (upd H1 p (.lst vs))) : tLst ta σ H Q := h
theorem op_run {r : R2} {ta tb : TE} {σ : L2.St} {H : Hp} {Q : VK} (h : ta σ H fun x H1 => tb σ H1 fun y H2 => r x y H2 Q) : tOp r ta tb σ H Q := h
theorem gname_run {i : Nat} {v : V} {σ : L2.St} {H : Hp} {Q : L2.St → Hp → Prop} (h : Q (σ.set i (some v)) H) : gName i v σ H Q := h
theorem call_run {sp : Sp} {dvs : List V} {E : XK} {t : TA} {σ : L2.St} {H : Hp} {Q : VK} (h : t σ H fun vs H1 => sp (vs ++ dvs) H1 Q E) : tCall sp dvs E t σ H Q := h
theorem cons_run {te : TE} {tr : TA} {σ : L2.St} {H : Hp} {Q : List V → Hp → Prop} (h : te σ H fun v H1 => tr σ H1 fun vs H2 => Q (v :: vs) H2) : tCons te tr σ H Q := h
theorem c_run {v : V} {σ : L2.St} {H : Hp} {Q : VK} (h : Q v H) : tC v σ H Q := h
theorem next_run {D : Ends} {σ : L2.St} {H : Hp} (h : D.nx σ H) : tNext D σ H := h
/-- a slot is forgotten -/
theorem Sl.any {b : Bs} {G H : Hp} {σ : L2.St} {Γ : Env} (S : Sl b G H σ Γ) (i : Nat) : Sl b G H σ (Γ.set i .any) := by
  have own : ∀ {j : Nat} {β : Arg}, (Γ.set i .any)[j]? = some β → β.own = true → Γ[j]? = some β := fun {j β} e1 e2 => by
    by_cases hj : i = j
    · subst hj
      rw [List.getElem?_set] at e1
      simp only [if_true] at e1
      split at e1
      · cases e1
        cases e2
      · cases e1
    · rw [List.getElem?_set_ne hj] at e1
      exact e1
  refine ⟨S.gx, S.hx, S.px, S.h1, S.gh, S.ff, by rw [List.length_set]; exact S.len, fun j α q => ?_, fun j k α β p h1 h2 h3 h4 h5 h6 => S.nd j k α β p (own h1 h2) h2 h3 (own h4 h5) h5 h6⟩
  by_cases hj : i = j
  · subst hj
    rw [List.getElem?_set] at q
    simp only [if_true] at q
    split at q
    · cases q
      trivial
    · cases q
  · rw [List.getElem?_set_ne hj] at q
    exact S.sl j α q
/-- what stood, but the thing at a, must stay unchanged -/
def hyBut (hy : Gh) (H : Hp) (a : Addr) (h : ∀ c, hy.p c → c ≠ a ∧ H c ≠ none) : Gh := ⟨fun c => if c = a then none else H c, hy.p, fun c q => by
  show (if c = a then none else H c) ≠ none
  rw [if_neg (h c q).1]
  exact (h c q).2⟩
end Cp
/-! Cp24: cells: values of which some are new lists of their own, to be changed later. -/
namespace Cp
open PySem PySem.Spec PyProof.Rows L2
inductive Cell where
  | fix (d : Dt)
  | lis (p : Addr) (ds : List Dt)
def Cell.dt : Cell → Dt
  | .fix d => d
  | .lis _ ds => .lst ds
def Cell.sh : Cell → Bool × Dt
  | .fix d => (false, d)
  | .lis _ ds => (true, .lst ds)
def Cell.ad : Cell → List Addr
  | .fix _ => []
  | .lis p _ => [p]
def CellAt (b : Bs) (G H : Hp) (v : V) : Cell → Prop
  | .fix d => Da b.K G v d
  | .lis p ds => v = .ref p ∧ G p = none ∧ b.H0 p = none ∧ b.Hx.h p = none ∧ ∃ xs, H p = some (.lst xs) ∧ DaL b.K G xs ds
def CellsAt (b : Bs) (G H : Hp) : List V → List Cell → Prop
  | [], [] => True
  | v :: vs, c :: cs => CellAt b G H v c ∧ CellsAt b G H vs cs
  | _, _ => False
abbrev ads (cs : List Cell) : List Addr := cs.flatMap Cell.ad
section
variable {b : Bs} {G H G' H' : Hp}
theorem CellAt.move {v : V} {c : Cell} (s : Same G G') (k : ∀ p ∈ c.ad, ∀ o, G p = none → H p = some o → G' p = none ∧ H' p = some o) (h : CellAt b G H v c) : CellAt b G' H' v c := by
  cases c with
  | fix d => exact Da.up s d h
  | lis p ds =>
    obtain ⟨h1, h2, h3, h4, xs, h5, h6⟩ := h
    obtain ⟨q1, q2⟩ := k p (List.mem_singleton.mpr rfl) _ h2 h5
    exact ⟨h1, q1, h3, h4, xs, q2, DaL.up s _ h6⟩
theorem CellsAt.move (s : Same G G') : ∀ {vs : List V} {cs : List Cell}, (∀ p ∈ ads cs, ∀ o, G p = none → H p = some o → G' p = none ∧ H' p = some o) → CellsAt b G H vs cs → CellsAt b G' H' vs cs
  | [], [], _, _ => trivial
  | _ :: _, [], _, h => h.elim
  | [], _ :: _, _, h => h.elim
  | _ :: _, _ :: _, k, ⟨h1, h2⟩ => ⟨h1.move s fun p hp => k p (List.mem_flatMap.mpr ⟨_, List.mem_cons_self, hp⟩), h2.move s fun p hp => k p (by
    obtain ⟨c, hc, z⟩ := List.mem_flatMap.mp hp
    exact List.mem_flatMap.mpr ⟨c, List.mem_cons_of_mem _ hc, z⟩)⟩
theorem CellsAt.app : ∀ {vs ws : List V} {cs ds : List Cell}, CellsAt b G H vs cs → CellsAt b G H ws ds → CellsAt b G H (vs ++ ws) (cs ++ ds)
  | [], _, [], _, _, h => h
  | _ :: _, _, [], _, h, _ => h.elim
  | [], _, _ :: _, _, h, _ => h.elim
  | _ :: _, _, _ :: _, _, ⟨h1, h2⟩, q => ⟨h1, h2.app q⟩
theorem CellsAt.split : ∀ {vs ws : List V} {cs ds : List Cell}, vs.length = cs.length → CellsAt b G H (vs ++ ws) (cs ++ ds) → CellsAt b G H vs cs ∧ CellsAt b G H ws ds
  | [], _, [], _, _, h => ⟨trivial, h⟩
  | _ :: _, _, [], _, e, _ => by cases e
  | [], _, _ :: _, _, e, _ => by cases e
  | _ :: _, _, _ :: _, _, e, ⟨h1, h2⟩ => by
    obtain ⟨q1, q2⟩ := CellsAt.split (Nat.succ.inj e) h2
    exact ⟨⟨h1, q1⟩, q2⟩
theorem CellsAt.len : ∀ {vs : List V} {cs : List Cell}, CellsAt b G H vs cs → vs.length = cs.length
  | [], [], _ => rfl
  | _ :: _, [], h => h.elim
  | [], _ :: _, h => h.elim
  | _ :: _, _ :: _, ⟨_, h⟩ => congrArg Nat.succ h.len
theorem CellsAt.get : ∀ {vs : List V} {cs : List Cell} {i : Nat} {c : Cell}, CellsAt b G H vs cs → cs[i]? = some c → ∃ v, vs[i]? = some v ∧ CellAt b G H v c
  | [], [], _, _, _, e => by simp at e
  | _ :: _, [], _, _, h, _ => h.elim
  | [], _ :: _, _, _, h, _ => h.elim
  | v :: _, _ :: _, 0, _, ⟨h, _⟩, e => by
    rw [List.getElem?_cons_zero] at e
    cases e
    exact ⟨v, rfl, h⟩
  | _ :: _, _ :: _, i + 1, _, ⟨_, h⟩, e => by
    rw [List.getElem?_cons_succ] at e
    obtain ⟨u, q1, q2⟩ := h.get e
    exact ⟨u, by rw [List.getElem?_cons_succ]; exact q1, q2⟩
/-- the cells' lists stand, and are nobody else's -/
theorem CellsAt.held : ∀ {vs : List V} {cs : List Cell}, CellsAt b G H vs cs → ∀ p ∈ ads cs, G p = none ∧ b.H0 p = none ∧ b.Hx.h p = none ∧ ∃ xs, H p = some (.lst xs)
  | [], [], _, p, hp => by simp at hp
  | _ :: _, [], h, _, _ => h.elim
  | [], _ :: _, h, _, _ => h.elim
  | _ :: _, c :: cs, ⟨h1, h2⟩, p, hp => by
    rw [ads, List.flatMap_cons, List.mem_append] at hp
    rcases hp with hp | hp
    · cases c with
      | fix d => cases hp
      | lis q ds =>
        cases List.mem_singleton.mp hp
        obtain ⟨_, q1, q2, q3, xs, q4, _⟩ := h1
        exact ⟨q1, q2, q3, xs, q4⟩
    · exact h2.held p hp
end
/-- the box in slot 0 is the only own thing -/
def BoxOnly (Γ : Env) : Prop := ∀ (j : Nat) β, Γ[j]? = some β → β.own = true → j = 0
/-- what must stay: the cells' lists besides -/
def hyCell (hy : Gh) (H : Hp) (l : List Addr) (h : ∀ c ∈ l, H c ≠ none) : Gh := ⟨fun c => if c ∈ l then H c else hy.h c, fun c => hy.p c ∨ c ∈ l, fun c q => by
  show (if c ∈ l then H c else hy.h c) ≠ none
  by_cases hc : c ∈ l
  · rw [if_pos hc]
    exact h c hc
  · rw [if_neg hc]
    exact hy.q c (q.resolve_right hc)⟩
section
variable {B : Cs} {gy : Hp} {hy : Gh} {Γ : Env} {G H : Hp} {σ : L2.St} {hv : List V} {hc : List Cell} {a : Addr}
theorem cell_ne (hh : CellsAt (B.b gy hy) G H hv hc) : ∀ c ∈ ads hc, H c ≠ none := fun c z => by
  obtain ⟨_, _, _, xs, e⟩ := hh.held c z
  rw [e]
  exact fun z => nomatch z
/-- over a base in which the cells' lists must stay as they are -/
theorem cell_base (w : Wy B gy hy) (S : Sl (B.b gy hy) G H σ Γ) (hh : CellsAt (B.b gy hy) G H hv hc) (ob : BoxOnly Γ) (hb : ∃ n, Γ[0]? = some (.box a n)) (na : a ∉ ads hc) :
    Wy B G (hyCell hy H (ads hc) (cell_ne hh)) ∧ Sl (B.b G (hyCell hy H (ads hc) (cell_ne hh))) G H σ Γ ∧
      ∀ {G' H' : Hp} {σ' : L2.St} {Γ' : Env}, Sl (B.b G (hyCell hy H (ads hc) (cell_ne hh))) G' H' σ' Γ' → Sl (B.b gy hy) G' H' σ' Γ' ∧ CellsAt (B.b gy hy) G' H' hv hc := by
  have nx : ∀ {c o}, hy.h c = some o → c ∉ ads hc := fun {c o} z m => by
    obtain ⟨_, _, q, _⟩ := hh.held c m
    rw [show (Cs.b B gy hy).Hx.h c = hy.h c from rfl, z] at q
    cases q
  have sub : Same hy.h (hyCell hy H (ads hc) (cell_ne hh)).h := fun c o z => by
    show (if c ∈ ads hc then H c else hy.h c) = some o
    rw [if_neg (nx z)]
    exact z
  refine ⟨⟨w.wok, w.gy.trans S.gx, w.hy.trans sub, fun c z => .inl (w.hp c z)⟩, Sl.base (b := B.b gy hy) (Gy := G) (Hy := hyCell hy H (ads hc) (cell_ne hh)) S (Same.refl _) (fun c o z => ?_) (fun c z => ?_) fun j β p h1 h2 h3 => ?_, fun {G' H' σ' Γ'} S' => ⟨?_, ?_⟩⟩
  · have z1 : (if c ∈ ads hc then H c else hy.h c) = some o := z
    split at z1
    · exact z1
    · exact S.hx c o z1
  · rcases z with z | z
    · exact S.px c z
    · exact (hh.held c z).1
  · obtain ⟨n, hb⟩ := hb
    have j0 := ob j β h1 h2
    subst j0
    rw [hb] at h1
    cases h1
    obtain ⟨e, _, e3, _⟩ := S.sl 0 _ hb
    rw [h3] at e
    cases e
    show (if a ∈ ads hc then H a else hy.h a) = none
    rw [if_neg na]
    exact e3
  · exact Sl.base (b := Cs.b B G (hyCell hy H (ads hc) (cell_ne hh))) (Gy := gy) (Hy := hy) S' (S.gx.trans S'.gx) (sub.trans S'.hx) (fun c z => S'.px c (.inl z)) fun j β p h1 h2 h3 => sub.free (S'.ownAt h1 h2 h3).2.1
  · refine hh.move S'.gx fun p hp o _ e => ⟨S'.px p (.inr hp), S'.hx p o ?_⟩
    show (if p ∈ ads hc then H p else hy.h p) = some o
    rw [if_pos hp]
    exact e
end
/-- arguments of which some are new lists (true), to be changed later -/
def ArgC (B : Cs) (a : Addr) (ta : TA) (Γ : Env) (shs : List (Bool × Dt)) : Prop := ∀ gy hy, Wy B gy hy → ∀ (G H : Hp) (σ : L2.St), Sl (B.b gy hy) G H σ Γ → ∀ (hv : List V) (hc : List Cell), CellsAt (B.b gy hy) G H hv hc → (a :: ads hc).Nodup → ∀ Q : List V → Hp → Prop,
  (∀ vs cs G' H', Same G G' → Sl (B.b gy hy) G' H' σ Γ → CellsAt (B.b gy hy) G' H' (hv ++ vs) (hc ++ cs) → cs.map Cell.sh = shs → (a :: ads (hc ++ cs)).Nodup → vs.length = cs.length → Q vs H') → ta σ H Q
section
variable {B : Cs} {Γ : Env} {a : Addr} {te : TE} {ta : TA} {shs : List (Bool × Dt)}
theorem ArgC.run {gy : Hp} {hy : Gh} {G H : Hp} {σ : L2.St} {hv : List V} {hc : List Cell} {Q : List V → Hp → Prop} (h : ArgC B a ta Γ shs) (w : Wy B gy hy) (S : Sl (B.b gy hy) G H σ Γ) (hh : CellsAt (B.b gy hy) G H hv hc) (nd : (a :: ads hc).Nodup)
    (k : ∀ vs cs G' H', Same G G' → Sl (B.b gy hy) G' H' σ Γ → CellsAt (B.b gy hy) G' H' (hv ++ vs) (hc ++ cs) → cs.map Cell.sh = shs → (a :: ads (hc ++ cs)).Nodup → vs.length = cs.length → Q vs H') : ta σ H Q := h gy hy w G H σ S hv hc hh nd Q k
theorem argc_nil : ArgC B a tNil Γ [] := fun gy hy w G H σ S hv hc hh nd Q k => k [] [] G H (Same.refl _) S (by rw [List.append_nil, List.append_nil]; exact hh) rfl (by rw [List.append_nil]; exact nd) rfl
theorem argc_fix {d : Dt} (ob : BoxOnly Γ) (hb : ∃ n, Γ[0]? = some (.box a n)) (h : Ev B te Γ fun d' Γ' => d' = d ∧ Γ' = Γ) (hr : ArgC B a ta Γ shs) : ArgC B a (tCons te ta) Γ ((false, d) :: shs) := fun gy hy w G H σ S hv hc hh nd Q k => by
  rw [List.nodup_cons] at nd
  obtain ⟨w1, S1, back⟩ := cell_base w S hh ob hb nd.1
  refine h G _ w1 G H σ S1 _ fun v d' Γ' G1 H1 ⟨e1, e2⟩ s1 S2 D => ?_
  subst e1 e2
  obtain ⟨S3, hh3⟩ := back S2
  have hh4 := hh3.app (ws := [v]) (ds := [.fix d']) ⟨D, trivial⟩
  have ea : ads (hc ++ [.fix d']) = ads hc := by
    rw [ads, List.flatMap_append]
    exact List.append_nil _
  refine hr gy hy w G1 H1 σ S3 _ _ hh4 (by rw [ea, List.nodup_cons]; exact nd) _ fun vs cs G2 H2 s2 S4 hh5 e nd5 hl => ?_
  rw [List.append_assoc, List.append_assoc] at hh5
  rw [List.append_assoc] at nd5
  exact k (v :: vs) (.fix d' :: cs) G2 H2 (s1.trans s2) S4 hh5 (by rw [List.map_cons, e]; rfl) nd5 (congrArg Nat.succ hl)
theorem argc_lis {ds : List Dt} (ob : BoxOnly Γ) (hb : ∃ n, Γ[0]? = some (.box a n)) (h : EvN B te Γ fun ds' Γ' => ds' = ds ∧ Γ' = Γ) (hr : ArgC B a ta Γ shs) : ArgC B a (tCons te ta) Γ ((true, .lst ds) :: shs) := fun gy hy w G H σ S hv hc hh nd Q k => by
  rw [List.nodup_cons] at nd
  obtain ⟨w1, S1, back⟩ := cell_base w S hh ob hb nd.1
  refine h G _ w1 G H σ S1 _ fun p xs ds' Γ' G1 H1 ⟨e1, e2⟩ s1 S2 N => ?_
  subst e1 e2
  obtain ⟨S3, hh3⟩ := back S2
  have pn : p ∉ ads hc := fun z => by
    have e := N.hx
    have e' : (if p ∈ ads hc then H p else hy.h p) = none := e
    rw [if_pos z] at e'
    exact cell_ne hh p z e'
  have px : hy.h p = none := by
    have e := N.hx
    have e' : (if p ∈ ads hc then H p else hy.h p) = none := e
    rw [if_neg pn] at e'
    exact e'
  have pa : p ≠ a := fun z => by
    obtain ⟨n, hb⟩ := hb
    exact N.no 0 _ hb rfl (by rw [z]; exact (S2.sl 0 _ hb).1)
  have hh4 := hh3.app (ws := [.ref p]) (ds := [.lis p ds']) ⟨⟨rfl, N.g, N.h0, px, xs, N.st, N.da⟩, trivial⟩
  have ea : ads (hc ++ [.lis p ds']) = ads hc ++ [p] := by
    rw [ads, List.flatMap_append]
    rfl
  have nd2 : (a :: ads (hc ++ [.lis p ds'])).Nodup := by
    rw [ea, List.nodup_cons, List.mem_append, List.nodup_append]
    refine ⟨fun z => z.elim nd.1 fun z => pa (List.mem_singleton.mp z).symm, nd.2, by simp, fun x hx y hy' z => ?_⟩
    rw [List.mem_singleton.mp hy'] at z
    exact pn (z ▸ hx)
  refine hr gy hy w G1 H1 σ S3 _ _ hh4 nd2 _ fun vs cs G2 H2 s2 S4 hh5 e nd5 hl => ?_
  rw [List.append_assoc, List.append_assoc] at hh5
  rw [List.append_assoc] at nd5
  exact k (.ref p :: vs) (.lis p ds' :: cs) G2 H2 (s1.trans s2) S4 hh5 (by rw [List.map_cons, e]; rfl) nd5 (congrArg Nat.succ hl)
end
section
variable {b : Bs} {G H H' : Hp} {σ : L2.St} {Γ : Env} {a : Addr} {n m i : Nat} {v x : V} {d : Dt} {c : Cell}
/-- a value as it is, told as data -/
theorem Sl.vd (S : Sl b G H σ Γ) (h : Γ[i]? = some (.v x)) (D : Da b.K G x d) : Sl b G H σ (Γ.set i (.d d)) := by
  have hi : i < Γ.length := (List.getElem?_eq_some_iff.mp h).1
  have hx : σ[i]? = some (some x) := S.sl i _ h
  have S2 := S.setD (i := i) (v := x) D hi
  have e : σ.set i (some x) = σ := by
    refine List.ext_getElem? fun j => ?_
    by_cases hj : i = j
    · subst hj
      have hl : i < σ.length := by rw [← S.len]; exact hi
      rw [List.getElem?_set_self hl, hx]
    · rw [List.getElem?_set_ne hj]
  rw [e] at S2
  exact S2
/-- another heap: what is known, what must stay, the box -/
theorem Sl.reheap (S : Sl b G H σ Γ) (ob : BoxOnly Γ) (hb : Γ[0]? = some (.box a n)) (keep : ∀ c o, H c = some o → c ≠ a → (G c ≠ none ∨ b.Hx.h c ≠ none) → H' c = some o) (live : ∀ c, H c ≠ none → H' c ≠ none) (bx : BoxSt m H' a) : Sl b G H' σ (Γ.set 0 (.box a m)) := by
  obtain ⟨e0, g0, x0, _⟩ := S.sl 0 _ hb
  have hi : 0 < Γ.length := (List.getElem?_eq_some_iff.mp hb).1
  have gk : ∀ c o, G c = some o → H' c = some o := fun c o z => keep c o (S.gh c o z) (ne_of_none z g0) (.inl (by rw [z]; exact fun z => nomatch z))
  have own : ∀ {j : Nat} {β : Arg}, (Γ.set 0 (.box a m))[j]? = some β → β.own = true → j = 0 := fun {j β} e1 e2 => by
    by_cases hj : 0 = j
    · exact hj.symm
    · rw [List.getElem?_set_ne hj] at e1
      exact ob j β e1 e2
  refine ⟨S.gx, fun c o z => keep c o (S.hx c o z) (ne_of_none z x0) (.inr (by rw [z]; exact fun z => nomatch z)), S.px, fun c z => live c (S.h1 c z), gk, S.ff, by rw [List.length_set]; exact S.len, fun j β q => ?_, fun j k β γ p h1 h2 _ h4 h5 _ => (own h1 h2).trans (own h4 h5).symm⟩
  by_cases hj : 0 = j
  · subst hj
    rw [List.getElem?_set_self hi] at q
    cases q
    exact ⟨e0, g0, x0, bx⟩
  · rw [List.getElem?_set_ne hj] at q
    have t := S.sl j β q
    refine t.move (Same.refl _) fun p o o1 _ _ _ => absurd (ob j β q o1) fun z => hj z.symm
/-- a cell's list is known from now on -/
theorem CellAt.know (S : Sl b G H σ Γ) (ob : BoxOnly Γ) (hb : Γ[0]? = some (.box a n)) (h : CellAt b G H v c) (na : a ∉ c.ad) : ∃ G', Same G G' ∧ Sl b G' H σ Γ ∧ Da b.K G' v c.dt ∧ ∀ p, p ∉ c.ad → G' p = G p := by
  cases c with
  | fix d => exact ⟨G, Same.refl _, S, h, fun _ _ => rfl⟩
  | lis p ds =>
    obtain ⟨rfl, h1, h2, h3, xs, h4, h5⟩ := h
    have pa : p ≠ a := fun z => na (by rw [← z]; exact List.mem_singleton.mpr rfl)
    have sn : Same G (upd G p (.lst xs)) := same_new h1
    refine ⟨upd G p (.lst xs), sn, ⟨S.gx.trans sn, S.hx, fun c z => ?_, S.h1, fun c o z => ?_, fun c o z => ?_, S.len, fun j β q => (S.sl j β q).move sn fun p' o o1 o2 o3 o4 => ⟨?_, o4⟩, S.nd⟩, ⟨p, xs, rfl, upd_same, DaL.up sn _ h5⟩, fun q hq => ?_⟩
    · rw [upd_ne fun e => b.Hx.q c z (by rw [e]; exact h3)]
      exact S.px c z
    · by_cases hc : c = p
      · subst hc
        rw [upd_same] at z
        rw [h4]
        exact z
      · rw [upd_ne hc] at z
        exact S.gh c o z
    · by_cases hc : c = p
      · exact .inr (hc ▸ h2)
      · rw [upd_ne hc] at z
        exact S.ff c o z
    · have j0 := ob j β q o1
      subst j0
      rw [hb] at q
      cases q
      obtain ⟨e, _⟩ := S.sl 0 _ hb
      rw [o2] at e
      cases e
      rw [upd_ne pa.symm]
      exact o3
    · exact upd_ne fun e => hq (List.mem_singleton.mpr e)
/-- a thing that is nobody's is known from now on -/
theorem Sl.know {p : Addr} {o : HO} (S : Sl b G H σ Γ) (ob : BoxOnly Γ) (hb : Γ[0]? = some (.box a n)) (h1 : G p = none) (h2 : b.H0 p = none) (h3 : b.Hx.h p = none) (h4 : H p = some o) (pa : p ≠ a) : Sl b (upd G p o) H σ Γ := by
  have sn : Same G (upd G p o) := same_new h1
  refine ⟨S.gx.trans sn, S.hx, fun c z => ?_, S.h1, fun c o' z => ?_, fun c o' z => ?_, S.len, fun j β q => (S.sl j β q).move sn fun p' o' o1 o2 o3 o4 => ⟨?_, o4⟩, S.nd⟩
  · rw [upd_ne fun e => b.Hx.q c z (by rw [e]; exact h3)]
    exact S.px c z
  · by_cases hc : c = p
    · subst hc
      rw [upd_same] at z
      rw [h4]
      exact z
    · rw [upd_ne hc] at z
      exact S.gh c o' z
  · by_cases hc : c = p
    · exact .inr (hc ▸ h2)
    · rw [upd_ne hc] at z
      exact S.ff c o' z
  · have j0 := ob j β q o1
    subst j0
    rw [hb] at q
    cases q
    obtain ⟨e, _⟩ := S.sl 0 _ hb
    rw [o2] at e
    cases e
    rw [upd_ne pa.symm]
    exact o3
/-- the cell with one more item -/
def Cell.grow (y : Dt) : Cell → Cell
  | .fix d => .fix d
  | .lis p ds => .lis p (ds ++ [y])
end
/-- over a base in which all but the box must stay as it is -/
theorem all_base {B : Cs} {gy : Hp} {hy : Gh} {Γ : Env} {G H : Hp} {σ : L2.St} {a : Addr} {n : Nat} (w : Wy B gy hy) (S : Sl (B.b gy hy) G H σ Γ) (ob : BoxOnly Γ) (hb : Γ[0]? = some (.box a n)) :
    ∃ hy', Wy B G hy' ∧ Sl (B.b G hy') G H σ Γ ∧ ∀ c o, H c = some o → c ≠ a → hy'.h c = some o := by
  obtain ⟨e0, g0, x0, _⟩ := S.sl 0 _ hb
  have hpy : ∀ c, hy.p c → c ≠ a ∧ H c ≠ none := fun c z => by
    obtain ⟨o, ho⟩ := Option.ne_none_iff_exists'.mp (hy.q c z)
    exact ⟨ne_of_none ho x0, by rw [S.hx c o ho]; exact fun z => nomatch z⟩
  refine ⟨hyBut hy H a hpy, ⟨w.wok, w.gy.trans S.gx, fun c o z => ?_, fun c z => w.hp c z⟩, Sl.base (b := Cs.b B gy hy) (Gy := G) (Hy := hyBut hy H a hpy) S (Same.refl _) (fun c o z => ?_) S.px fun j β p' h1 h2 h3 => ?_, fun c o z n => ?_⟩
  · have z1 := w.hy c o z
    show (if c = a then none else H c) = some o
    rw [if_neg (ne_of_none z1 x0)]
    exact S.hx c o z1
  · have z1 : (if c = a then none else H c) = some o := z
    split at z1
    · cases z1
    · exact z1
  · have j0 := ob j β h1 h2
    subst j0
    rw [h3] at e0
    cases e0
    show (if a = a then none else H a) = none
    exact if_pos rfl
  · show (if c = a then none else H c) = some o
    rw [if_neg n]
    exact z
theorem bo6 {a : Addr} {n : Nat} {x1 x2 x3 x4 x5 : Arg} (h1 : x1.own = false) (h2 : x2.own = false) (h3 : x3.own = false) (h4 : x4.own = false) (h5 : x5.own = false) : BoxOnly [.box a n, x1, x2, x3, x4, x5] := fun j β e o => by
  match j, e with
  | 0, _ => rfl
  | 1, e => cases e; rw [h1] at o; cases o
  | 2, e => cases e; rw [h2] at o; cases o
  | 3, e => cases e; rw [h3] at o; cases o
  | 4, e => cases e; rw [h4] at o; cases o
  | 5, e => cases e; rw [h5] at o; cases o
  | _ + 6, e => cases e
/-- isinstance(e, list), raw -/
theorem isi_run {K : PySem.W.Frag} {G H : Hp} {σ : L2.St} {i : Nat} {v : V} {d : Dt} {Q : Bool → Hp → Prop} (s : Same G H) (h : σ[i]? = some (some v)) (D : Da K G v d) (q : Q d.isLst H) : tB (tCB (rIsi K) (tCons (tVar i) (tCons (tC (V.ty "list")) tNil))) σ H Q :=
  ⟨v, h, v, .ty "list", .type d.tn, .type "list", d.isLst, rfl, .ty "list", Da.ty s D, kit_ty (kit_list d), d.isLst, rfl, q⟩
/-- a new empty dict, known from now on -/
theorem ev_dnew {B : Cs} {Γ : Env} {Φ : Dt → Env → Prop} (q : Φ (.dk []) Γ) : Ev B tDNewK Γ Φ := fun gy hy w G H σ S Q k p np => by
  have e := Ext.new (o := .dK []) S.gh np
  exact k (.ref p) _ Γ _ _ q e.g (S.ext e) ⟨p, [], rfl, upd_same, rfl⟩
end Cp
/-! Cp25: the head of a law whose promise holds where no repr is under way. -/
namespace Cp
open PySem PySem.Spec PyProof.Rows L2
section
variable {P : Program} {w : World} {K : PySem.W.Frag} {mg mt : Str → Option Value} {CX : CXT} {k : Nat} {fa a : Addr} {fd : FuncData} {x : Str} {sp : Sp} {t : Shared} {items : List Value} {ns : List Int}
/-- the script's object -/
abbrev scO (items : List Value) : Obj := { cls := .type "list", data := .seq items.toArray }
/-- the script alone is tracked, if it is none of the written part's own things -/
noncomputable def scH (K : PySem.W.Frag) (a : Addr) (items : List Value) (ns : List Int) : Hp := fun b => if b = a ∧ (K.lookup a).isNone = true then some (.frz (scO items) (.lst (ns.map V.int))) else none
theorem scH_at {b : Addr} {u : HO} (h : scH K a items ns b = some u) : b = a ∧ K.lookup a = none ∧ u = .frz (scO items) (.lst (ns.map V.int)) := by
  unfold scH at h
  split at h
  · rename_i c
    cases h
    exact ⟨c.1, Option.isNone_iff_eq_none.mp c.2, rfl⟩
  · cases h
theorem scH_no {b : Addr} (h : b = a → (K.lookup a).isSome = true) : scH K a items ns b = none := by
  cases e : scH K a items ns b with
  | none => rfl
  | some u =>
    obtain ⟨e1, e2, _⟩ := scH_at e
    have z := h e1
    rw [e2] at z
    cases z
theorem entryG (inK : K.In t.heap) (gN : t.heap.Ns mainGlobals mg) (bN : t.heap.Ns builtinsNs mt) (bE : ∀ y : Str, y ≠ "__name__" → mt y = bootBuiltins y) (lim : t.heap.NoLimit) (quiet : t.gens = #[])
    (scr : t.heap.get? a = some (scO items)) (nums : IntsAre items ns) (many : ns.length ≤ sizeLine) (room : Room k callerA)
    (G : ∀ base : Heap, K.In base → base.Ns mainGlobals mg → FnG P w K mg base CX k fa fd [x] sp) (bind : ∀ (s : Shared) (u : Value), BindsTo s fd ⟨[u], []⟩ [(x, u)])
    (pro : ∀ H : Hp, SqL K H a (ns.map V.int) → sp [.ref a] H (fun v _ => v = .bl true) fun _ _ _ => False) (noE : ∀ H e s', CX [] H t (fun _ _ _ => False) e s' → False) :
    codeAny (model P w) callerA (.call (.ref fa) ⟨[.ref a], []⟩) (fun res fin => res = .ok (.ret (.bool true)) ∧ OldK t.heap fin.heap ∧ fin.os = t.os ∧ AllBare fin.gens) t := by
  let H := scH K a items ns
  have vals : Vals (ns.map V.int) items := L2.vals_ints nums
  have size : (ns.map V.int).length ≤ sizeLine := by rw [List.length_map]; exact many
  have seqA : SqL K H a (ns.map V.int) := by
    cases e : K.lookup a with
    | none => exact .inl (.inr ⟨scO items, by show (if a = a ∧ (K.lookup a).isNone = true then _ else _) = _; rw [e]; exact if_pos ⟨rfl, rfl⟩⟩)
    | some o =>
      have q := inK a o e
      rw [scr] at q
      cases q
      exact .inr ⟨_, items.toArray, _, e, rfl, rfl, rfl, by rw [List.size_toArray, nums.length]; exact many, by simpa using vals⟩
  -- what is not the script, and what is a dict, is not tracked
  have dictN : ∀ {b : Addr} {o : Obj} {es : Array DictEntry} {n : Nat}, t.heap.get? b = some o → o.data = .dict es n → H b = none := fun {b o es n} q d => by
    cases e : H b with
    | none => rfl
    | some u =>
      obtain ⟨e1, _⟩ := scH_at e
      rw [e1, scr] at q
      cases q
      cases d
  have up : ∀ {b : Addr} {m : Str → Option Value}, t.heap.Ns b m → (hidT t.heap H).Ns b m := fun {b m} z => by
    obtain ⟨o, es, n, q, d, r⟩ := z
    exact ⟨o, es, n, hidT_get q (dictN q d), d, r⟩
  have inB : K.In (hidT t.heap H) := fun b o q => hidT_get (inK b o q) (scH_no fun e => by rw [← e, q]; rfl)
  have frame : Env0 P w K mg (hidT t.heap H) callerA [] t H := by
    obtain ⟨ml, l1, l2⟩ := lim
    refine ⟨rfl, ⟨inB, up gN, ⟨mt, up bN, bE⟩, ⟨ml, up l1, l2⟩⟩, fun b o q => of_hidT q, Nat.le_of_eq (hidT_size t.heap H), trivial, (fun b z => by cases z), fun b u q => ?_, .of_eq quiet⟩
    obtain ⟨rfl, _, rfl⟩ := scH_at q
    exact ⟨scr, size, items, _, vals, scr⟩
  refine codeAny_mono ((G _ inB (up gN)).run callerA [] t H ⟨[.ref a], []⟩ [.ref a] [.ref a] _ _ rfl room frame (bind t (.ref a)) (.cons rfl .nil) (pro H seqA)) fun res fin q => ?_
  match res, q with
  | .error e, q => exact (noE H e fin q).elim
  | .ok .next, q => exact q.elim
  | .ok .brk, q => exact q.elim
  | .ok .cont, q => exact q.elim
  | .ok (.ret u), q =>
    obtain ⟨v, H', sameOs, calm, un, held, rel, q⟩ := q
    cases (show v = V.bl true from q)
    cases (show u = Value.bool true from rel)
    refine ⟨rfl, OldK.of_keep fun b o z => ?_, sameOs, calm⟩
    cases e : H b with
    | none => exact un.keep b o z e (fun y => by cases y) (fun y => by cases y)
    | some u =>
      obtain ⟨rfl, _, rfl⟩ := scH_at e
      rw [scr] at z
      cases z
      exact (held _ _ (un.frzs _ _ _ e)).1
end
/-- the goal that k_head leaves, from such a law's promise -/
theorem walkG {l : PySem.W.OpenLaw} {n k : Nat} {q : Program} {loose : List Str} {XP : (Str → Option Value) → Heap → Prop} {YP : World → Heap → Prop} {d : DefRec} {Kf : Params → PySem.W.Frag} {CX : CXT} {sp : PySem.W.Frag → Sp} {x : Str}
    (most : l.most = some n) (most2 : n ≤ sizeLine) (plain : d.params.defaults = []) (room : Room k callerA) (ofY : ∀ (w : World) (h : Heap), YP w h → (Kf w.params).In h)
    (G : ∀ (w : World) (mg : Str → Option Value) (fa : Addr) (h : Heap), (Kf w.params).In h → h.Ns mainGlobals mg → mg d.name = some (.ref fa) →
      ∃ fd : FuncData, (∀ (s : Shared) (u : Value), BindsTo s fd ⟨[u], []⟩ [(x, u)]) ∧ ∀ base : Heap, (Kf w.params).In base → base.Ns mainGlobals mg → FnG l.prog w (Kf w.params) mg base CX k fa fd [x] (sp (Kf w.params)))
    (pro : ∀ (K : PySem.W.Frag) (H : Hp) (a : Addr) (ns : List Int), ns.length ≤ n → SqL K H a (ns.map V.int) → sp K [.ref a] H (fun v _ => v = .bl true) fun _ _ _ => False)
    (noE : ∀ (H : Hp) (s : Shared) (e : Value) (s' : Shared), CX [] H s (fun _ _ _ => False) e s' → False) : PySem.W.WalkO q loose XP YP l.row.toRowW d [] (fun f vs => PySem.call f vs) := by
  refine Att.attach_call most plain fun w _ t mg mt fa o _ _ _ a items ns ground y _ _ _ atG scr nums short quiet => ?_
  obtain ⟨fd, bind, F⟩ := G w mg fa _ (ofY w _ y) ground.T.g atG
  exact entryG (ofY w _ y) ground.T.g ground.T.b ground.T.builtins ground.T.nolimit quiet scr nums (Nat.le_trans short most2) room F bind (fun H hS => pro _ H a ns short hS) fun H e s' => noE H t e s'
end Cp
/-! K81a: the shapes -/
namespace Cp
open PySem PySem.Spec PyProof.Rows L2
local macro_rules | `(tactic| trivial) => `(tactic| with_reducible refine ea_nil ?_)
local macro_rules | `(tactic| trivial) => `(tactic| with_reducible refine ea_cons ?_)
local macro_rules | `(tactic| trivial) => `(tactic| with_reducible refine et_test ?_)
local macro_rules | `(tactic| trivial) => `(tactic| with_reducible refine et_and ?_)
local macro_rules | `(tactic| trivial) => `(tactic| with_reducible refine et_or ?_)
local macro_rules | `(tactic| trivial) => `(tactic| with_reducible refine et_not ?_)
local macro_rules | `(tactic| trivial) => `(tactic| with_reducible refine ev_if ?_)
local macro_rules | `(tactic| trivial) => `(tactic| with_reducible refine ev_chain ?_)
local macro_rules | `(tactic| trivial) => `(tactic| with_reducible refine ev_and ?_)
local macro_rules | `(tactic| trivial) => `(tactic| with_reducible refine ev_or ?_)
local macro_rules | `(tactic| trivial) => `(tactic| with_reducible refine ev_not ?_)
local macro_rules | `(tactic| trivial) => `(tactic| with_reducible refine ev_op ?_)
local macro_rules | `(tactic| trivial) => `(tactic| with_reducible refine ev_cb ?_)
local macro_rules | `(tactic| trivial) => `(tactic| with_reducible refine ev_isi kit_int ?_)
local macro_rules | `(tactic| trivial) => `(tactic| with_reducible refine ev_isi kit_bool ?_)
local macro_rules | `(tactic| trivial) => `(tactic| with_reducible refine ev_isi kit_str ?_)
local macro_rules | `(tactic| trivial) => `(tactic| with_reducible refine ev_isi kit_list ?_)
local macro_rules | `(tactic| trivial) => `(tactic| with_reducible refine ev_isi kit_tuple ?_)
local macro_rules | `(tactic| trivial) => `(tactic| with_reducible refine ev_isi2 kit_list kit_tuple ?_)
local macro_rules | `(tactic| trivial) => `(tactic| with_reducible refine ev_call ?_)
local macro_rules | `(tactic| trivial) => `(tactic| with_reducible refine ev_tup ?_)
local macro_rules | `(tactic| trivial) => `(tactic| with_reducible refine ev_i ?_)
local macro_rules | `(tactic| trivial) => `(tactic| with_reducible refine ev_b ?_)
local macro_rules | `(tactic| trivial) => `(tactic| with_reducible refine ev_n ?_)
local macro_rules | `(tactic| trivial) => `(tactic| with_reducible refine ev_s ?_)
local macro_rules | `(tactic| trivial) => `(tactic| ((with_reducible apply ev_var); · exact rfl))
local macro_rules | `(tactic| trivial) => `(tactic| with_reducible refine sv_ret ?_)
local macro_rules | `(tactic| trivial) => `(tactic| with_reducible refine sv_if ?_)
local macro_rules | `(tactic| trivial) => `(tactic| (with_reducible refine sv_nx ?_))
local macro_rules | `(tactic| trivial) => `(tactic| (with_reducible refine sv_asg ?_))
local macro_rules | `(tactic| trivial) => `(tactic| (with_reducible refine sv_asgN ?_))
local macro_rules | `(tactic| trivial) => `(tactic| ((with_reducible apply le_and); · exact rfl))
local macro_rules | `(tactic| trivial) => `(tactic| ((with_reducible apply lt_and); · exact rfl))
local macro_rules | `(tactic| trivial) => `(tactic| ((with_reducible apply ex_and); · exact rfl))
local macro_rules | `(tactic| trivial) => `(tactic| (((with_reducible apply eq_and); · exact rfl); try dsimp only [r0, r1, r2, r3, r4, x1, x2]))
local macro_rules | `(tactic| trivial) => `(tactic| with_reducible refine ⟨_, opd_I0, ?_⟩)
local macro_rules | `(tactic| trivial) => `(tactic| with_reducible refine ⟨_, opd_B0, ?_⟩)
local macro_rules | `(tactic| trivial) => `(tactic| with_reducible refine ⟨_, opd_isN, ?_⟩)
local macro_rules | `(tactic| trivial) => `(tactic| with_reducible refine ⟨_, opd_notN, ?_⟩)
local macro_rules | `(tactic| trivial) => `(tactic| with_reducible refine ⟨_, opd_isB, ?_⟩)
local macro_rules | `(tactic| trivial) => `(tactic| with_reducible refine ⟨_, opd_eqI, ?_⟩)
local macro_rules | `(tactic| trivial) => `(tactic| with_reducible refine ⟨_, opd_neI, ?_⟩)
local macro_rules | `(tactic| trivial) => `(tactic| ((with_reducible apply ite_t); · exact rfl))
local macro_rules | `(tactic| trivial) => `(tactic| ((with_reducible apply ite_f); · exact rfl))
local macro_rules | `(tactic| trivial) => `(tactic| with_reducible refine sv_seq ?_)
/-- the built-in names are free -/
structure Bi (mg : Str → Option Value) : Prop where
  isinstance : mg "isinstance" = none
  int : mg "int" = none
  bool : mg "bool" = none
  list : mg "list" = none
  tuple : mg "tuple" = none
  str : mg "str" = none
  all : mg "all" = none
  set : mg "set" = none
  len : mg "len" = none
  range : mg "range" = none
  sum : mg "sum" = none
  sorted : mg "sorted" = none
  min : mg "min" = none
  max : mg "max" = none
  abs : mg "abs" = none
  dict : mg "dict" = none
  repr : mg "repr" = none
def topS (i : Nat) : Stmt := PySem.Challenge.pw_cutpatch_k81_whole_possible_and_between.main.body.getD i (.Pass ⟨0, 0, 0, 0⟩)
abbrev s_is_integer : Stmt := topS 5
theorem sc_is_integer : FnScope ["value"] ["value"] (defScope s_is_integer) := ⟨rfl, rfl, rfl, by decide +kernel, rfl, by decide +kernel, by decide +kernel⟩
abbrev s_is_count : Stmt := topS 6
theorem sc_is_count : FnScope ["value"] ["value"] (defScope s_is_count) := ⟨rfl, rfl, rfl, by decide +kernel, rfl, by decide +kernel, by decide +kernel⟩
abbrev s_is_index : Stmt := topS 7
theorem sc_is_index : FnScope ["value", "many"] ["value", "many"] (defScope s_is_index) := ⟨rfl, rfl, rfl, by decide +kernel, rfl, by decide +kernel, by decide +kernel⟩
abbrev s_is_list : Stmt := topS 8
theorem sc_is_list : FnScope ["value"] ["value"] (defScope s_is_list) := ⟨rfl, rfl, rfl, by decide +kernel, rfl, by decide +kernel, by decide +kernel⟩
abbrev s_is_tuple : Stmt := topS 9
theorem sc_is_tuple : FnScope ["value", "many"] ["value", "many"] (defScope s_is_tuple) := ⟨rfl, rfl, rfl, by decide +kernel, rfl, by decide +kernel, by decide +kernel⟩
def isI : Dt → Bool
  | .int _ => true
  | _ => false
def isC : Dt → Bool
  | .int i => decide (0 ≤ i)
  | _ => false
def isX (n : Int) : Dt → Bool
  | .int i => decide (0 ≤ i) && decide (i < n)
  | _ => false
def isT (n : Int) : Dt → Bool
  | .tup l => decide ((l.length : Int) = n)
  | .sqt l => decide ((l.length : Int) = n)
  | _ => false
section
variable {P : Program} {w : World} {K : PySem.W.Frag} {mg : Str → Option Value} {base : Heap} {f : Addr} {fd : FuncData}
abbrev p_is_integer (K : PySem.W.Frag) : Sp := Pu K 1 (r1 fun a Ψ => Ψ (.bl (isI a)))
abbrev p_is_count (K : PySem.W.Frag) : Sp := Pu K 1 (r1 fun a Ψ => Ψ (.bl (isC a)))
abbrev p_is_index (K : PySem.W.Frag) : Sp := Pu K 2 (r2 fun a b Ψ => ∃ n : Int, b = .int n ∧ Ψ (.bl (isX n a)))
abbrev p_is_list (K : PySem.W.Frag) : Sp := Pu K 1 (r1 fun a Ψ => Ψ (.bl (a.isLst || a.isTup)))
abbrev p_is_tuple (K : PySem.W.Frag) : Sp := Pu K 2 (r2 fun a b Ψ => ∃ n : Int, b = .int n ∧ Ψ (.bl (isT n a)))
theorem d_is_integer (B : Bi mg) (F : TopD K mg "is_integer" s_is_integer ["value"] f fd) : DefOk P w K mg base CX0 1 "is_integer" ["value"] (p_is_integer K) := by
  refine F.ok (F.fn.ok sc_is_integer (fun _ _ _ _ => Pu.len) (fun cdv A outer s H vs Q E hr h => ⟨_, (pss_one (ps_ret (pe_and (pe_b (kIsi (K := K) rfl) B.isinstance (pa_cons (pv 0) (pa_cons (pe_ty "int" B.int) pa_nil))) (pe_one (pe_not (pe_b (kIsi (K := K) rfl) B.isinstance (pa_cons (pv 0) (pa_cons (pe_ty "bool" B.bool) pa_nil)))))))),
    pu_start h (by decide) fun r ds Ψ hl hR => ?_⟩))
  try dsimp only [cxOf, Cx.nox]
  obtain ⟨a, rfl⟩ := ds1 hl
  dsimp only [r1] at hR
  repeat trivial
  cases a <;> first | exact hR | (repeat trivial) <;> exact hR
theorem d_is_count (B : Bi mg) (D_is_integer : DefOk P w K mg base CX0 1 "is_integer" ["value"] (p_is_integer K)) (F : TopD K mg "is_count" s_is_count ["value"] f fd) : DefOk P w K mg base CX0 2 "is_count" ["value"] (p_is_count K) := by
  refine F.ok (F.fn.ok sc_is_count (fun _ _ _ _ => Pu.len) (fun cdv A outer s H vs Q E hr h => ⟨_, (pss_one (ps_ret (pe_and (pe_d D_is_integer hr pass0 (pa_cons (pv 0) pa_nil)) (pe_one (pe_cmpR op_ge (pv 0) pe_int (nomark _)))))),
    pu_start h (by decide) fun r ds Ψ hl hR => ?_⟩))
  try dsimp only [cxOf, Cx.nox]
  obtain ⟨a, rfl⟩ := ds1 hl
  dsimp only [r1] at hR
  repeat trivial
  cases a <;> first | exact hR | (repeat trivial) <;> exact hR
theorem d_is_index (B : Bi mg) (D_is_integer : DefOk P w K mg base CX0 1 "is_integer" ["value"] (p_is_integer K)) (F : TopD K mg "is_index" s_is_index ["value", "many"] f fd) : DefOk P w K mg base CX0 2 "is_index" ["value", "many"] (p_is_index K) := by
  refine F.ok (F.fn.ok sc_is_index (fun _ _ _ _ => Pu.len) (fun cdv A outer s H vs Q E hr h => ⟨_, (pss_one (ps_ret (pe_and (pe_d D_is_integer hr pass0 (pa_cons (pv 0) pa_nil)) (pe_one (pe_chain op_le op_lt pe_int (pv 0) (pv 1)))))),
    pu_start h (by decide) fun r ds Ψ hl hR => ?_⟩))
  try dsimp only [cxOf, Cx.nox]
  obtain ⟨a, b, rfl⟩ := ds2 hl
  dsimp only [r2] at hR
  obtain ⟨n, rfl, hR⟩ := hR
  repeat trivial
  cases a with
  | int i =>
    repeat trivial
    by_cases h : 0 ≤ i
    · rw [if_pos (decide_eq_true h)]
      repeat trivial
      have e : isX n (.int i) = decide (i < n) := by
        show (decide (0 ≤ i) && decide (i < n)) = decide (i < n)
        rw [decide_eq_true h, Bool.true_and]
      rw [e] at hR
      exact hR
    · rw [if_neg (by rw [decide_eq_false h]; exact Bool.false_ne_true)]
      have e : isX n (.int i) = false := by
        show (decide (0 ≤ i) && decide (i < n)) = false
        rw [decide_eq_false h, Bool.false_and]
      rw [e] at hR
      exact hR
  | _ => exact hR
theorem d_is_list (B : Bi mg) (F : TopD K mg "is_list" s_is_list ["value"] f fd) : DefOk P w K mg base CX0 1 "is_list" ["value"] (p_is_list K) := by
  refine F.ok (F.fn.ok sc_is_list (fun _ _ _ _ => Pu.len) (fun cdv A outer s H vs Q E hr h => ⟨_, (pss_one (ps_ret (pe_b (kIsiT (K := K) rfl) B.isinstance (pa_cons (pv 0) (pa_cons (pe_tup (pa_cons (pe_ty "list" B.list) (pa_cons (pe_ty "tuple" B.tuple) pa_nil))) pa_nil))))),
    pu_start h (by decide) fun r ds Ψ hl hR => ?_⟩))
  try dsimp only [cxOf, Cx.nox]
  obtain ⟨a, rfl⟩ := ds1 hl
  dsimp only [r1] at hR
  repeat trivial
theorem d_is_tuple (B : Bi mg) (F : TopD K mg "is_tuple" s_is_tuple ["value", "many"] f fd) : DefOk P w K mg base CX0 1 "is_tuple" ["value", "many"] (p_is_tuple K) := by
  refine F.ok (F.fn.ok sc_is_tuple (fun _ _ _ _ => Pu.len) (fun cdv A outer s H vs Q E hr h => ⟨_, (pss_one (ps_ret (pe_and (pe_b (kIsi (K := K) rfl) B.isinstance (pa_cons (pv 0) (pa_cons (pe_ty "tuple" B.tuple) pa_nil))) (pe_one (pe_cmpR op_eq (pe_b (kLen (K := K) rfl) B.len (pa_cons (pv 0) pa_nil)) (pv 1) (nomark _)))))),
    pu_start h (by decide) fun r ds Ψ hl hR => ?_⟩))
  try dsimp only [cxOf, Cx.nox]
  obtain ⟨a, b, rfl⟩ := ds2 hl
  dsimp only [r2] at hR
  obtain ⟨n, rfl, hR⟩ := hR
  repeat trivial
  cases a with
  | tup l =>
    repeat trivial
    refine ⟨_, cbd_len (.tup l), ?_⟩
    repeat trivial
  | sqt l =>
    repeat trivial
    refine ⟨_, cbd_len (.sqt l), ?_⟩
    repeat trivial
  | _ => exact hR
end
end Cp
/-! K81b: lots -/
namespace Cp
open PySem PySem.Spec PyProof.Rows L2
local macro_rules | `(tactic| trivial) => `(tactic| with_reducible refine ea_nil ?_)
local macro_rules | `(tactic| trivial) => `(tactic| with_reducible refine ea_cons ?_)
local macro_rules | `(tactic| trivial) => `(tactic| with_reducible refine et_test ?_)
local macro_rules | `(tactic| trivial) => `(tactic| with_reducible refine et_yes ?_)
local macro_rules | `(tactic| trivial) => `(tactic| with_reducible refine et_B ?_)
local macro_rules | `(tactic| trivial) => `(tactic| with_reducible refine ev_lenS ?_)
local macro_rules | `(tactic| trivial) => `(tactic| with_reducible refine et_and ?_)
local macro_rules | `(tactic| trivial) => `(tactic| with_reducible refine et_or ?_)
local macro_rules | `(tactic| trivial) => `(tactic| with_reducible refine et_not ?_)
local macro_rules | `(tactic| trivial) => `(tactic| with_reducible refine ev_if ?_)
local macro_rules | `(tactic| trivial) => `(tactic| with_reducible refine ev_chain ?_)
local macro_rules | `(tactic| trivial) => `(tactic| with_reducible refine ev_and ?_)
local macro_rules | `(tactic| trivial) => `(tactic| with_reducible refine ev_or ?_)
local macro_rules | `(tactic| trivial) => `(tactic| with_reducible refine ev_not ?_)
local macro_rules | `(tactic| trivial) => `(tactic| with_reducible refine ev_op ?_)
local macro_rules | `(tactic| trivial) => `(tactic| with_reducible refine ev_cb ?_)
local macro_rules | `(tactic| trivial) => `(tactic| with_reducible refine ev_isi kit_int ?_)
local macro_rules | `(tactic| trivial) => `(tactic| with_reducible refine ev_isi kit_bool ?_)
local macro_rules | `(tactic| trivial) => `(tactic| with_reducible refine ev_isi kit_str ?_)
local macro_rules | `(tactic| trivial) => `(tactic| with_reducible refine ev_isi kit_list ?_)
local macro_rules | `(tactic| trivial) => `(tactic| with_reducible refine ev_isi kit_tuple ?_)
local macro_rules | `(tactic| trivial) => `(tactic| with_reducible refine ev_isi2 kit_list kit_tuple ?_)
local macro_rules | `(tactic| trivial) => `(tactic| with_reducible refine ev_call ?_)
local macro_rules | `(tactic| trivial) => `(tactic| with_reducible refine ev_tup ?_)
local macro_rules | `(tactic| trivial) => `(tactic| with_reducible refine ev_i ?_)
local macro_rules | `(tactic| trivial) => `(tactic| with_reducible refine ev_b ?_)
local macro_rules | `(tactic| trivial) => `(tactic| with_reducible refine ev_n ?_)
local macro_rules | `(tactic| trivial) => `(tactic| with_reducible refine ev_s ?_)
local macro_rules | `(tactic| trivial) => `(tactic| ((with_reducible apply ev_var); · exact rfl))
local macro_rules | `(tactic| trivial) => `(tactic| ((with_reducible apply ev_varV); (· exact rfl); (· assumption)))
local macro_rules | `(tactic| trivial) => `(tactic| with_reducible refine sv_ret ?_)
local macro_rules | `(tactic| trivial) => `(tactic| with_reducible refine sv_if ?_)
local macro_rules | `(tactic| trivial) => `(tactic| (with_reducible refine sv_nx ?_))
local macro_rules | `(tactic| trivial) => `(tactic| ((with_reducible apply le_and); · exact rfl))
local macro_rules | `(tactic| trivial) => `(tactic| ((with_reducible apply lt_and); · exact rfl))
local macro_rules | `(tactic| trivial) => `(tactic| ((with_reducible apply ex_and); · exact rfl))
local macro_rules | `(tactic| trivial) => `(tactic| (((with_reducible apply eq_and); · exact rfl); try dsimp only [r0, r1, r2, r3, r4, x1, x2]))
local macro_rules | `(tactic| trivial) => `(tactic| with_reducible refine ⟨_, opd_I0, ?_⟩)
local macro_rules | `(tactic| trivial) => `(tactic| with_reducible refine ⟨_, opd_B0, ?_⟩)
local macro_rules | `(tactic| trivial) => `(tactic| with_reducible refine ⟨_, opd_isN, ?_⟩)
local macro_rules | `(tactic| trivial) => `(tactic| with_reducible refine ⟨_, opd_notN, ?_⟩)
local macro_rules | `(tactic| trivial) => `(tactic| with_reducible refine ⟨_, opd_isB, ?_⟩)
local macro_rules | `(tactic| trivial) => `(tactic| with_reducible refine ⟨_, opd_eqI, ?_⟩)
local macro_rules | `(tactic| trivial) => `(tactic| with_reducible refine ⟨_, opd_neI, ?_⟩)
local macro_rules | `(tactic| trivial) => `(tactic| ((with_reducible apply ite_t); · exact rfl))
local macro_rules | `(tactic| trivial) => `(tactic| ((with_reducible apply ite_f); · exact rfl))
local macro_rules | `(tactic| trivial) => `(tactic| with_reducible refine sv_seq ?_)
local macro_rules | `(tactic| trivial) => `(tactic| with_reducible refine tgl_nil ?_)
local macro_rules | `(tactic| trivial) => `(tactic| with_reducible apply tgl_cons)
local macro_rules | `(tactic| trivial) => `(tactic| ((with_reducible apply tg_tup); · exact rfl))
local macro_rules | `(tactic| trivial) => `(tactic| ((with_reducible apply tg_sqt); · exact rfl))
local macro_rules | `(tactic| trivial) => `(tactic| ((with_reducible refine tg_name ?_ ?_); · exact Nat.le_of_ble_eq_true rfl))
local macro_rules | `(tactic| trivial) => `(tactic| with_reducible refine sv_drop (te := tCallS _ _ _) ?_)
local macro_rules | `(tactic| trivial) => `(tactic| with_reducible refine sv_asg (te := tOp _ _ _) ?_)
local macro_rules | `(tactic| trivial) => `(tactic| with_reducible refine sv_asg (te := tCall _ _ _ _) ?_)
local macro_rules | `(tactic| trivial) => `(tactic| with_reducible refine sv_asg (te := tCallS _ _ _) ?_)
local macro_rules | `(tactic| trivial) => `(tactic| with_reducible refine sv_asg (te := tIf _ _ _) ?_)
local macro_rules | `(tactic| trivial) => `(tactic| with_reducible refine sv_asg (te := tVar _) ?_)
local macro_rules | `(tactic| trivial) => `(tactic| with_reducible refine sv_asg (te := tC _) ?_)
local macro_rules | `(tactic| trivial) => `(tactic| with_reducible refine sv_asg (te := tTup _) ?_)
local macro_rules | `(tactic| trivial) => `(tactic| with_reducible refine sv_asg (te := tAndV _ _) ?_)
local macro_rules | `(tactic| trivial) => `(tactic| with_reducible refine sv_asg (te := tOrV _ _) ?_)
local macro_rules | `(tactic| trivial) => `(tactic| with_reducible refine sv_asg (te := tNotV _) ?_)
local macro_rules | `(tactic| trivial) => `(tactic| with_reducible refine sv_asg (te := tDGet _ _) ?_)
local macro_rules | `(tactic| trivial) => `(tactic| with_reducible refine sv_asg (te := tUn _ _) ?_)
local macro_rules | `(tactic| trivial) => `(tactic| with_reducible apply sv_asgTp)
abbrev s_are_indices : Stmt := topS 10
theorem sc_are_indices : FnScope ["items", "many", "item"] ["items", "many"] (defScope s_are_indices) := ⟨rfl, rfl, rfl, by decide +kernel, rfl, by decide +kernel, by decide +kernel⟩
abbrev s_ascends : Stmt := topS 11
theorem sc_ascends : FnScope ["items", "at"] ["items"] (defScope s_ascends) := ⟨rfl, rfl, rfl, by decide +kernel, rfl, by decide +kernel, by decide +kernel⟩
abbrev s_is_lot : Stmt := topS 12
theorem sc_is_lot : FnScope ["value", "many"] ["value", "many"] (defScope s_is_lot) := ⟨rfl, rfl, rfl, by decide +kernel, rfl, by decide +kernel, by decide +kernel⟩
abbrev s_lot_number : Stmt := topS 13
theorem sc_lot_number : FnScope ["lot", "item"] ["lot"] (defScope s_lot_number) := ⟨rfl, rfl, rfl, by decide +kernel, rfl, by decide +kernel, by decide +kernel⟩
abbrev s_lot_of : Stmt := topS 14
theorem sc_lot_of : FnScope ["number", "many", "item"] ["number", "many"] (defScope s_lot_of) := ⟨rfl, rfl, rfl, by decide +kernel, rfl, by decide +kernel, by decide +kernel⟩
def areX (n : Int) (l : List Dt) : Bool := l.all (isX n) && decide ((l.map Dt.toI).Nodup)
def ascB (ns : List Int) : Bool := (List.range (ns.length - 1)).all fun i => decide (ns.getD i 0 < ns.getD (i + 1) 0)
def isLotD (n : Int) (v : Dt) : Bool := (v.isLst || v.isTup) && (areX n v.items && ascB (v.items.map Dt.toI))
theorem ints_of {n : Int} : ∀ {l : List Dt}, l.all (isX n) = true → l = (l.map Dt.toI).map Dt.int
  | [], _ => rfl
  | d :: l, h => by
    rw [List.all_cons, Bool.and_eq_true] at h
    rw [List.map_cons, List.map_cons, ← ints_of h.2]
    cases d with
    | int i => rfl
    | _ => cases h.1
section
variable {P : Program} {w : World} {K : PySem.W.Frag} {mg : Str → Option Value} {base : Heap} {f : Addr} {fd : FuncData}
abbrev p_are_indices (K : PySem.W.Frag) : Sp := Pu K 2 (r2 fun a b Ψ => ∃ l n, SeqD a l ∧ b = .int n ∧ l.length ≤ 1000 ∧ Ψ (.bl (areX n l)))
abbrev p_ascends (K : PySem.W.Frag) : Sp := Pu K 1 (r1 fun a Ψ => ∃ ns : List Int, SeqD a (ns.map .int) ∧ ns.length ≤ 1000 ∧ Ψ (.bl (ascB ns)))
abbrev p_is_lot (K : PySem.W.Frag) : Sp := Pu K 2 (r2 fun a b Ψ => ∃ n : Int, b = .int n ∧ a.items.length ≤ 1000 ∧ Ψ (.bl (isLotD n a)))
theorem d_are_indices (B : Bi mg) (D_is_index : DefOk P w K mg base CX0 2 "is_index" ["value", "many"] (p_is_index K)) (F : TopD K mg "are_indices" s_are_indices ["items", "many"] f fd) : DefOk P w K mg base CX0 3 "are_indices" ["items", "many"] (p_are_indices K) := by
  refine F.ok (F.fn.ok sc_are_indices (fun _ _ _ _ => Pu.len) (fun cdv A outer s H vs Q E hr h => ⟨_, (pss_cons (ps_if (pt_not (pt_val (pe_b (kAll (K := K) rfl rfl) B.all (pa_cons (pe_lc (own := [("item", 2)]) (g := (gName 2)) (tt := tYes) rfl sc_are_indices.nd (kSeq (K := K) rfl (pv 0)) (blkOk_by (own := [("item", 2)]) (N := ["items", "many", "item"]) (sc := defScope s_are_indices) (by decide +kernel)) (fun _ _ _ _ _ => (pg_name (i := 2) sc_are_indices.nd rfl (.inl rfl))) (fun _ _ _ _ _ => pts_nil) (fun _ _ _ _ _ => (pe_d D_is_index hr pass0 (pa_cons (pv 2) (pa_cons (pv 1) pa_nil))))) pa_nil)))) (pss_one (ps_ret pe_bl)) pss_nil)
      (pss_one (ps_ret (pe_cmpR op_eq (pe_lenS B.len B.set (pv 0)) (pe_b (kLen (K := K) rfl) B.len (pa_cons (pv 0) pa_nil)) (nomark _))))),
    pu_start h (by decide) fun r ds Ψ hl hR => ?_⟩))
  try dsimp only [cxOf, Cx.nox]
  obtain ⟨a, b, rfl⟩ := ds2 hl
  dsimp only [r2] at hR
  obtain ⟨l, n, q, rfl, hlen, hR⟩ := hR
  repeat trivial
  refine EvN.ev (en_lcF (fun _ h => h) (src_seq ?_))
  repeat trivial
  refine ⟨l, q, Nat.le_trans hlen (by decide), rfl, fun i => some (.bl (isX n (itemOf l i))), fun i hi => tg_name (Nat.le_of_ble_eq_true rfl) ?_, ?_⟩
  · repeat trivial
  · repeat trivial
    rw [range_bls]
    refine ⟨_, cbd_all, ?_⟩
    repeat trivial
    rw [all_map_id]
    cases hall : l.all (isX n) with
    | false =>
      repeat trivial
      have e : areX n l = false := by
        unfold areX
        rw [hall, Bool.false_and]
      rw [e] at hR
      exact hR
    | true =>
      repeat trivial
      have hi := ints_of hall
      refine ⟨l.map Dt.toI, by rw [← hi]; exact q, by rw [List.length_map]; exact hlen, fun c hc => ?_⟩
      repeat trivial
      refine ⟨_, cbd_len q, ?_⟩
      repeat trivial
      have e : areX n l = decide ((c : Int) = (l.length : Int)) := by
        unfold areX
        rw [hall, Bool.true_and]
        rw [List.length_map] at hc
        by_cases h : (l.map Dt.toI).Nodup
        · rw [decide_eq_true h, decide_eq_true (by rw [hc.mpr h])]
        · rw [decide_eq_false h, decide_eq_false (fun z => h (hc.mp (by omega)))]
      rw [e] at hR
      exact hR
theorem d_ascends (B : Bi mg) (F : TopD K mg "ascends" s_ascends ["items"] f fd) : DefOk P w K mg base CX0 1 "ascends" ["items"] (p_ascends K) := by
  refine F.ok (F.fn.ok sc_ascends (fun _ _ _ _ => Pu.len) (fun cdv A outer s H vs Q E hr h => ⟨_, (pss_one (ps_ret (pe_b (kAll (K := K) rfl rfl) B.all (pa_cons (pe_lc (own := [("at", 1)]) (g := (gName 1)) (tt := tYes) rfl sc_ascends.nd (pi_range1 (by rfl) B.range (pa_cons (pe_op op_sub (pe_b (kLen (K := K) rfl) B.len (pa_cons (pv 0) pa_nil)) pe_int) pa_nil)) (blkOk_by (own := [("at", 1)]) (N := ["items", "at"]) (sc := defScope s_ascends) (by decide +kernel)) (fun _ _ _ _ _ => (pg_name (i := 1) sc_ascends.nd rfl (.inl rfl))) (fun _ _ _ _ _ => pts_nil) (fun _ _ _ _ _ => (pe_cmpR op_lt (pe_ix (kIx (K := K) rfl) (pv 0) (pv 1) (fun _ _ => rfl)) (pe_ix (kIx (K := K) rfl) (pv 0) (pe_op op_add (pv 1) pe_int) (fun _ _ => rfl)) (nomark _)))) pa_nil)))),
    pu_start h (by decide) fun r ds Ψ hl hR => ?_⟩))
  try dsimp only [cxOf, Cx.nox]
  obtain ⟨a, rfl⟩ := ds1 hl
  dsimp only [r1] at hR
  obtain ⟨ns, q, hlen, hR⟩ := hR
  repeat trivial
  refine EvN.ev (en_lcF (fun _ h => h) (src_range ?_))
  repeat trivial
  refine ⟨_, cbd_len q, ?_⟩
  repeat trivial
  rw [List.length_map]
  have e : ((ns.length : Int) - 1).toNat = ns.length - 1 := by omega
  refine ⟨by omega, by omega, by omega, rfl, fun i => some (.bl (decide (ns.getD i 0 < ns.getD (i + 1) 0))), fun i hi => tg_name (Nat.le_of_ble_eq_true rfl) ?_, ?_⟩
  · rw [e] at hi
    repeat trivial
    refine ⟨_, opd_ix q (by rw [atI_ok (by rw [List.length_map]; omega), getD_map (by omega)]), ?_⟩
    repeat trivial
    refine ⟨_, opd_ix (n := (i : Int) + 1) q (by rw [show (i : Int) + 1 = ((i + 1 : Nat) : Int) from rfl, atI_ok (by rw [List.length_map]; omega), getD_map (by omega)]), ?_⟩
    repeat trivial
  · repeat trivial
    rw [range_bl, e]
    refine ⟨_, cbd_all, ?_⟩
    rw [all_map_id]
    exact hR
theorem d_is_lot (B : Bi mg) (D_is_list : DefOk P w K mg base CX0 1 "is_list" ["value"] (p_is_list K)) (D_are_indices : DefOk P w K mg base CX0 3 "are_indices" ["items", "many"] (p_are_indices K)) (D_ascends : DefOk P w K mg base CX0 1 "ascends" ["items"] (p_ascends K)) (F : TopD K mg "is_lot" s_is_lot ["value", "many"] f fd) : DefOk P w K mg base CX0 4 "is_lot" ["value", "many"] (p_is_lot K) := by
  refine F.ok (F.fn.ok sc_is_lot (fun _ _ _ _ => Pu.len) (fun cdv A outer s H vs Q E hr h => ⟨_, (pss_one (ps_ret (pe_and (pe_d D_is_list hr pass0 (pa_cons (pv 0) pa_nil)) (pe_and (pe_d D_are_indices hr pass0 (pa_cons (pv 0) (pa_cons (pv 1) pa_nil))) (pe_one (pe_d D_ascends hr pass0 (pa_cons (pv 0) pa_nil))))))),
    pu_start h (by decide) fun r ds Ψ hl hR => ?_⟩))
  try dsimp only [cxOf, Cx.nox]
  obtain ⟨a, b, rfl⟩ := ds2 hl
  dsimp only [r2] at hR
  obtain ⟨n, rfl, hlen, hR⟩ := hR
  repeat trivial
  cases hc : (a.isLst || a.isTup) with
  | false =>
    repeat trivial
    unfold isLotD at hR
    rw [hc, Bool.false_and] at hR
    exact hR
  | true =>
    repeat trivial
    refine ⟨a.items, n, SeqD.of hc, rfl, hlen, ?_⟩
    repeat trivial
    cases hx : areX n a.items with
    | false =>
      repeat trivial
      unfold isLotD at hR
      rw [hc, Bool.true_and, hx, Bool.false_and] at hR
      exact hR
    | true =>
      repeat trivial
      have hall : a.items.all (isX n) = true := by
        unfold areX at hx
        rw [Bool.and_eq_true] at hx
        exact hx.1
      refine ⟨a.items.map Dt.toI, by rw [← ints_of hall]; exact SeqD.of hc, by rw [List.length_map]; exact hlen, ?_⟩
      unfold isLotD at hR
      rw [hc, Bool.true_and, hx, Bool.true_and] at hR
      exact hR
def lotN (ns : List Int) : Int := (ns.map fun n => (1 : Int) * 2 ^ n.toNat).sum
def lotOf (n : Int) (m : Nat) : List Int := ((List.range m).filter fun i => decide (Builtin.bitAnd (n / 2 ^ i) 1 = 1)).map fun (i : Nat) => (i : Int)
abbrev p_lot_number (K : PySem.W.Frag) : Sp := Pu K 1 (r1 fun a Ψ => ∃ ns : List Int, SeqD a (ns.map .int) ∧ ns.length ≤ 1000 ∧ (∀ n ∈ ns, 0 ≤ n ∧ n ≤ 1000) ∧ Ψ (.int (lotN ns)))
abbrev p_lot_of (K : PySem.W.Frag) : Sp := Pu K 2 (r2 fun a b Ψ => ∃ (n : Int) (m : Nat), a = .int n ∧ b = .int (m : Int) ∧ m ≤ 1000 ∧ Ψ (.lst ((lotOf n m).map .int)))
theorem d_lot_number (B : Bi mg) (F : TopD K mg "lot_number" s_lot_number ["lot"] f fd) : DefOk P w K mg base CX0 1 "lot_number" ["lot"] (p_lot_number K) := by
  refine F.ok (F.fn.ok sc_lot_number (fun _ _ _ _ => Pu.len) (fun cdv A outer s H vs Q E hr h => ⟨_, (pss_one (ps_ret (pe_b (kSumS (K := K) rfl rfl) B.sum (pa_cons (pe_lc (own := [("item", 1)]) (g := (gName 1)) (tt := tYes) rfl sc_lot_number.nd (kSeq (K := K) rfl (pv 0)) (blkOk_by (own := [("item", 1)]) (N := ["lot", "item"]) (sc := defScope s_lot_number) (by decide +kernel)) (fun _ _ _ _ _ => (pg_name (i := 1) sc_lot_number.nd rfl (.inl rfl))) (fun _ _ _ _ _ => pts_nil) (fun _ _ _ _ _ => (pe_op op_shl pe_int (pv 1)))) pa_nil)))),
    pu_start h (by decide) fun r ds Ψ hl hR => ?_⟩))
  try dsimp only [cxOf, Cx.nox]
  obtain ⟨a, rfl⟩ := ds1 hl
  dsimp only [r1] at hR
  obtain ⟨ns, q, hlen, hb, hR⟩ := hR
  repeat trivial
  refine EvN.ev (en_lcF (fun _ h => h) (src_seq ?_))
  repeat trivial
  refine ⟨ns.map .int, q, by rw [List.length_map]; omega, rfl, fun i => some (.int ((fun d : Dt => (1 : Int) * 2 ^ d.toI.toNat) (itemOf (ns.map .int) i))), fun i hi => tg_name (Nat.le_of_ble_eq_true rfl) ?_, ?_⟩
  · repeat trivial
    rw [List.length_map] at hi
    have e : itemOf (ns.map Dt.int) i = .int (ns.getD i 0) := by
      unfold itemOf
      rw [List.getD_eq_getElem?_getD, getD_map hi]
      rfl
    rw [e]
    have hm : ns.getD i 0 ∈ ns := by
      rw [List.getD_eq_getElem?_getD, List.getElem?_eq_getElem hi]
      exact List.getElem_mem hi
    obtain ⟨b1, b2⟩ := hb _ hm
    refine ⟨_, opd_I ⟨b1, by omega, by decide⟩, rfl, ?_⟩
    show some (Dt.int ((1 : Int) * 2 ^ (itemOf (ns.map Dt.int) i).toI.toNat)) = _
    rw [e]
    rfl
  · repeat trivial
    have e : (ns.map Dt.int).map (fun d : Dt => (1 : Int) * 2 ^ d.toI.toNat) = ns.map fun n => (1 : Int) * 2 ^ n.toNat := by
      rw [List.map_map]
      rfl
    rw [range_ints (fun d : Dt => (1 : Int) * 2 ^ d.toI.toNat), e]
    refine ⟨_, cbd_sumS (.lst _), ?_⟩
    exact hR
theorem d_lot_of (B : Bi mg) (F : TopD K mg "lot_of" s_lot_of ["number", "many"] f fd) : DefOk P w K mg base CX0 1 "lot_of" ["number", "many"] (p_lot_of K) := by
  refine F.ok (F.fn.ok sc_lot_of (fun _ _ _ _ => Pu.len) (fun cdv A outer s H vs Q E hr h => ⟨_, (pss_one (ps_ret (pe_lc (own := [("item", 2)]) (g := (gName 2)) (tt := _) rfl sc_lot_of.nd (pi_range1 (by rfl) B.range (pa_cons (pv 1) pa_nil)) (blkOk_by (own := [("item", 2)]) (N := ["number", "many", "item"]) (sc := defScope s_lot_of) (by decide +kernel)) (fun _ _ _ _ _ => (pg_name (i := 2) sc_lot_of.nd rfl (.inl rfl))) (fun _ _ _ _ _ => (pts_one (pt_cmpR op_eq (pe_op op_and (pe_op op_shr (pv 0) (pv 2)) pe_int) pe_int (nomark _)))) (fun _ _ _ _ _ => (pv 2))))),
    pu_start h (by decide) fun r ds Ψ hl hR => ?_⟩))
  try dsimp only [cxOf, Cx.nox]
  obtain ⟨a, b, rfl⟩ := ds2 hl
  dsimp only [r2] at hR
  obtain ⟨n, m, rfl, rfl, hm, hR⟩ := hR
  repeat trivial
  refine EvN.ev (en_lcF (fun _ h => h) (src_range ?_))
  repeat trivial
  refine ⟨by omega, by omega, by omega, rfl, fun i => if decide (Builtin.bitAnd (n / 2 ^ i) 1 = 1) = true then some (.int (i : Int)) else none, fun i hi => tg_name (Nat.le_of_ble_eq_true rfl) ?_, ?_⟩
  · repeat trivial
    refine ⟨_, opd_I (Int.natCast_nonneg i), ?_⟩
    repeat trivial
    rw [Int.toNat_natCast]
    by_cases h : Builtin.bitAnd (n / 2 ^ i) 1 = 1
    · rw [decide_eq_true h]
      repeat trivial
      exact if_pos (decide_eq_true h)
    · rw [decide_eq_false h]
      refine iteF ⟨rfl, if_neg ?_⟩
      rw [decide_eq_false h]
      exact Bool.false_ne_true
  · have e : (List.range (m : Int).toNat).filterMap (fun i : Nat => if decide (Builtin.bitAnd (n / 2 ^ i) 1 = 1) = true then some (Dt.int (i : Int)) else none) = (lotOf n m).map Dt.int := by
      unfold lotOf
      rw [Int.toNat_natCast, List.map_map]
      induction List.range m with
      | nil => rfl
      | cons x xs ih =>
        rw [List.filterMap_cons, List.filter_cons]
        by_cases h : decide (Builtin.bitAnd (n / 2 ^ x) 1 = 1) = true
        · rw [if_pos h, if_pos h, List.map_cons, ih]
          rfl
        · rw [if_neg h, if_neg h, ih]
    rw [e]
    exact hR
end
end Cp
/-! K81c: answers -/
namespace Cp
open PySem PySem.Spec PyProof.Rows L2
local macro_rules | `(tactic| trivial) => `(tactic| with_reducible refine ea_nil ?_)
local macro_rules | `(tactic| trivial) => `(tactic| with_reducible refine ea_cons ?_)
local macro_rules | `(tactic| trivial) => `(tactic| with_reducible refine et_test ?_)
local macro_rules | `(tactic| trivial) => `(tactic| with_reducible refine et_yes ?_)
local macro_rules | `(tactic| trivial) => `(tactic| with_reducible refine et_B ?_)
local macro_rules | `(tactic| trivial) => `(tactic| with_reducible refine ev_lenS ?_)
local macro_rules | `(tactic| trivial) => `(tactic| with_reducible refine et_and ?_)
local macro_rules | `(tactic| trivial) => `(tactic| with_reducible refine et_or ?_)
local macro_rules | `(tactic| trivial) => `(tactic| with_reducible refine et_not ?_)
local macro_rules | `(tactic| trivial) => `(tactic| with_reducible refine ev_if ?_)
local macro_rules | `(tactic| trivial) => `(tactic| with_reducible refine ev_chain ?_)
local macro_rules | `(tactic| trivial) => `(tactic| with_reducible refine ev_and ?_)
local macro_rules | `(tactic| trivial) => `(tactic| with_reducible refine ev_or ?_)
local macro_rules | `(tactic| trivial) => `(tactic| with_reducible refine ev_not ?_)
local macro_rules | `(tactic| trivial) => `(tactic| with_reducible refine ev_op ?_)
local macro_rules | `(tactic| trivial) => `(tactic| with_reducible refine ev_cb ?_)
local macro_rules | `(tactic| trivial) => `(tactic| with_reducible refine ev_isi kit_int ?_)
local macro_rules | `(tactic| trivial) => `(tactic| with_reducible refine ev_isi kit_bool ?_)
local macro_rules | `(tactic| trivial) => `(tactic| with_reducible refine ev_isi kit_str ?_)
local macro_rules | `(tactic| trivial) => `(tactic| with_reducible refine ev_isi kit_list ?_)
local macro_rules | `(tactic| trivial) => `(tactic| with_reducible refine ev_isi kit_tuple ?_)
local macro_rules | `(tactic| trivial) => `(tactic| with_reducible refine ev_isi2 kit_list kit_tuple ?_)
local macro_rules | `(tactic| trivial) => `(tactic| with_reducible refine ev_call ?_)
local macro_rules | `(tactic| trivial) => `(tactic| with_reducible refine ev_tup ?_)
local macro_rules | `(tactic| trivial) => `(tactic| with_reducible refine ev_i ?_)
local macro_rules | `(tactic| trivial) => `(tactic| with_reducible refine ev_b ?_)
local macro_rules | `(tactic| trivial) => `(tactic| with_reducible refine ev_n ?_)
local macro_rules | `(tactic| trivial) => `(tactic| with_reducible refine ev_s ?_)
local macro_rules | `(tactic| trivial) => `(tactic| ((with_reducible apply ev_var); · exact rfl))
local macro_rules | `(tactic| trivial) => `(tactic| ((with_reducible apply ev_varV); (· exact rfl); (· assumption)))
local macro_rules | `(tactic| trivial) => `(tactic| with_reducible refine sv_ret ?_)
local macro_rules | `(tactic| trivial) => `(tactic| with_reducible refine sv_if ?_)
local macro_rules | `(tactic| trivial) => `(tactic| (with_reducible refine sv_nx ?_))
local macro_rules | `(tactic| trivial) => `(tactic| ((with_reducible apply le_and); · exact rfl))
local macro_rules | `(tactic| trivial) => `(tactic| ((with_reducible apply lt_and); · exact rfl))
local macro_rules | `(tactic| trivial) => `(tactic| ((with_reducible apply ex_and); · exact rfl))
local macro_rules | `(tactic| trivial) => `(tactic| (((with_reducible apply eq_and); · exact rfl); try dsimp only [r0, r1, r2, r3, r4, x1, x2]))
local macro_rules | `(tactic| trivial) => `(tactic| with_reducible refine ⟨_, opd_I0, ?_⟩)
local macro_rules | `(tactic| trivial) => `(tactic| with_reducible refine ⟨_, opd_B0, ?_⟩)
local macro_rules | `(tactic| trivial) => `(tactic| with_reducible refine ⟨_, opd_isN, ?_⟩)
local macro_rules | `(tactic| trivial) => `(tactic| with_reducible refine ⟨_, opd_notN, ?_⟩)
local macro_rules | `(tactic| trivial) => `(tactic| with_reducible refine ⟨_, opd_isB, ?_⟩)
local macro_rules | `(tactic| trivial) => `(tactic| with_reducible refine ⟨_, opd_eqI, ?_⟩)
local macro_rules | `(tactic| trivial) => `(tactic| with_reducible refine ⟨_, opd_neI, ?_⟩)
local macro_rules | `(tactic| trivial) => `(tactic| ((with_reducible apply ite_t); · exact rfl))
local macro_rules | `(tactic| trivial) => `(tactic| ((with_reducible apply ite_f); · exact rfl))
local macro_rules | `(tactic| trivial) => `(tactic| with_reducible refine sv_seq ?_)
local macro_rules | `(tactic| trivial) => `(tactic| with_reducible refine tgl_nil ?_)
local macro_rules | `(tactic| trivial) => `(tactic| with_reducible apply tgl_cons)
local macro_rules | `(tactic| trivial) => `(tactic| ((with_reducible apply tg_tup); · exact rfl))
local macro_rules | `(tactic| trivial) => `(tactic| ((with_reducible apply tg_sqt); · exact rfl))
local macro_rules | `(tactic| trivial) => `(tactic| ((with_reducible refine tg_name ?_ ?_); · exact Nat.le_of_ble_eq_true rfl))
local macro_rules | `(tactic| trivial) => `(tactic| with_reducible refine sv_drop (te := tCallS _ _ _) ?_)
local macro_rules | `(tactic| trivial) => `(tactic| with_reducible refine sv_asg (te := tOp _ _ _) ?_)
local macro_rules | `(tactic| trivial) => `(tactic| with_reducible refine sv_asg (te := tCall _ _ _ _) ?_)
local macro_rules | `(tactic| trivial) => `(tactic| with_reducible refine sv_asg (te := tCallS _ _ _) ?_)
local macro_rules | `(tactic| trivial) => `(tactic| with_reducible refine sv_asg (te := tIf _ _ _) ?_)
local macro_rules | `(tactic| trivial) => `(tactic| with_reducible refine sv_asg (te := tVar _) ?_)
local macro_rules | `(tactic| trivial) => `(tactic| with_reducible refine sv_asg (te := tC _) ?_)
local macro_rules | `(tactic| trivial) => `(tactic| with_reducible refine sv_asg (te := tTup _) ?_)
local macro_rules | `(tactic| trivial) => `(tactic| with_reducible refine sv_asg (te := tAndV _ _) ?_)
local macro_rules | `(tactic| trivial) => `(tactic| with_reducible refine sv_asg (te := tOrV _ _) ?_)
local macro_rules | `(tactic| trivial) => `(tactic| with_reducible refine sv_asg (te := tNotV _) ?_)
local macro_rules | `(tactic| trivial) => `(tactic| with_reducible refine sv_asg (te := tDGet _ _) ?_)
local macro_rules | `(tactic| trivial) => `(tactic| with_reducible refine sv_asg (te := tUn _ _) ?_)
local macro_rules | `(tactic| trivial) => `(tactic| with_reducible apply sv_asgTp)
abbrev s_is_asked_lot : Stmt := topS 18
theorem sc_is_asked_lot : FnScope ["value"] ["value"] (defScope s_is_asked_lot) := ⟨rfl, rfl, rfl, by decide +kernel, rfl, by decide +kernel, by decide +kernel⟩
abbrev s_is_answer : Stmt := topS 19
theorem sc_is_answer : FnScope ["value", "lot", "low", "high"] ["value"] (defScope s_is_answer) := ⟨rfl, rfl, rfl, by decide +kernel, rfl, by decide +kernel, by decide +kernel⟩
abbrev s_is_answers : Stmt := topS 20
theorem sc_is_answers : FnScope ["value", "item", "lot", "low", "high"] ["value"] (defScope s_is_answers) := ⟨rfl, rfl, rfl, by decide +kernel, rfl, by decide +kernel, by decide +kernel⟩
abbrev s_check_answers : Stmt := topS 21
theorem sc_check_answers : FnScope ["answers"] ["answers"] (defScope s_check_answers) := ⟨rfl, rfl, rfl, by decide +kernel, rfl, by decide +kernel, by decide +kernel⟩
abbrev s_check_asked_lot : Stmt := topS 22
theorem sc_check_asked_lot : FnScope ["lot"] ["lot"] (defScope s_check_asked_lot) := ⟨rfl, rfl, rfl, by decide +kernel, rfl, by decide +kernel, by decide +kernel⟩
def isAsk (a : Dt) : Bool := isLotD 3 a && (decide (0 < (a.items.length : Int)) && decide ((a.items.length : Int) < 3))
def tupOf : Dt → Option (List Dt)
  | .tup l => some l
  | .sqt l => some l
  | _ => none
def isAns (v : Dt) : Bool := match tupOf v with
  | some [a, b, c] => isAsk a && (isC b && (c.isN || (isI c && decide (b.toI ≤ c.toI))))
  | _ => false
def lotNo (d : Dt) : Int := lotN ((d.items.getD 0 .non).items.map Dt.toI)
def isAnsW (v : Dt) : Bool := (v.isLst || v.isTup) && (v.items.all isAns && decide (v.items.map lotNo).Nodup)
def small1 (a : Dt) : Prop := a.items.length ≤ 1000
def small2 (a : Dt) : Prop := ∀ d ∈ a.items, small1 d
def small3 (a : Dt) : Prop := small1 a ∧ ∀ d ∈ a.items, small2 d
theorem isAsk_ints {a : Dt} (h : isAsk a = true) : ∃ ns : List Int, SeqD a (ns.map .int) ∧ a.items.map Dt.toI = ns ∧ (∀ n ∈ ns, 0 ≤ n ∧ n < 3) ∧ ns.length ≤ 2 ∧ isLotD 3 a = true ∧ a.items = ns.map .int ∧ 0 < ns.length := by
  unfold isAsk at h
  rw [Bool.and_eq_true, Bool.and_eq_true] at h
  obtain ⟨h1, h2, h3⟩ := h
  have h1' := h1
  unfold isLotD areX at h1'
  rw [Bool.and_eq_true, Bool.and_eq_true, Bool.and_eq_true] at h1'
  obtain ⟨q1, ⟨q2, q3⟩, q4⟩ := h1'
  have e := ints_of q2
  have l2 := of_decide_eq_true h3
  have l1 := of_decide_eq_true h2
  refine ⟨a.items.map Dt.toI, by rw [← e]; exact SeqD.of q1, rfl, fun n hn => ?_, by rw [List.length_map]; omega, h1, e, by rw [List.length_map]; omega⟩
  obtain ⟨d, hd, rfl⟩ := List.mem_map.mp hn
  have z := List.all_eq_true.mp q2 d hd
  cases d with
  | int i =>
    have z' : (decide (0 ≤ i) && decide (i < 3)) = true := z
    rw [Bool.and_eq_true] at z'
    exact ⟨of_decide_eq_true z'.1, of_decide_eq_true z'.2⟩
  | _ => cases z
section
variable {P : Program} {w : World} {K : PySem.W.Frag} {mg : Str → Option Value} {base : Heap} {f : Addr} {fd : FuncData}
abbrev p_is_asked_lot (K : PySem.W.Frag) : Sp := Pu K 1 (r1 fun a Ψ => small1 a ∧ Ψ (.bl (isAsk a)))
abbrev p_is_answer (K : PySem.W.Frag) : Sp := Pu K 1 (r1 fun a Ψ => small2 a ∧ Ψ (.bl (isAns a)))
abbrev p_is_answers (K : PySem.W.Frag) : Sp := Pu K 1 (r1 fun a Ψ => small3 a ∧ Ψ (.bl (isAnsW a)))
theorem d_is_asked_lot (B : Bi mg) {tP : Tok} (hPosts : mg "POSTS" = some (.int 3 tP)) (D_is_lot : DefOk P w K mg base CX0 4 "is_lot" ["value", "many"] (p_is_lot K)) (F : TopD K mg "is_asked_lot" s_is_asked_lot ["value"] f fd) : DefOk P w K mg base CX0 5 "is_asked_lot" ["value"] (p_is_asked_lot K) := by
  refine F.ok (F.fn.ok sc_is_asked_lot (fun _ _ _ _ => Pu.len) (fun cdv A outer s H vs Q E hr h => ⟨_, (pss_one (ps_ret (pe_and (pe_d D_is_lot hr pass0 (pa_cons (pv 0) (pa_cons (pe_glob (v := .int 3) (by rfl) hPosts ⟨_, rfl⟩) pa_nil))) (pe_one (pe_chain op_lt op_lt pe_int (pe_b (kLen (K := K) rfl) B.len (pa_cons (pv 0) pa_nil)) (pe_glob (v := .int 3) (by rfl) hPosts ⟨_, rfl⟩)))))),
    pu_start h (by decide) fun r ds Ψ hl hR => ?_⟩))
  try dsimp only [cxOf, Cx.nox]
  obtain ⟨a, rfl⟩ := ds1 hl
  dsimp only [r1] at hR
  obtain ⟨hs, hR⟩ := hR
  unfold isAsk at hR
  repeat trivial
  cases h : isLotD 3 a with
  | false =>
    rw [h, Bool.false_and] at hR
    repeat trivial
  | true =>
    rw [h, Bool.true_and] at hR
    have q : (a.isLst || a.isTup) = true := by
      unfold isLotD at h
      rw [Bool.and_eq_true] at h
      exact h.1
    repeat trivial
    refine ⟨_, cbd_len (SeqD.of q), ?_⟩
    repeat trivial
    cases h1 : decide (0 < (a.items.length : Int)) with
    | false =>
      rw [h1, Bool.false_and] at hR
      repeat trivial
    | true =>
      rw [h1, Bool.true_and] at hR
      repeat trivial
theorem d_is_answer (B : Bi mg) (D_is_integer : DefOk P w K mg base CX0 1 "is_integer" ["value"] (p_is_integer K)) (D_is_count : DefOk P w K mg base CX0 2 "is_count" ["value"] (p_is_count K)) (D_is_tuple : DefOk P w K mg base CX0 1 "is_tuple" ["value", "many"] (p_is_tuple K))
    (D_is_asked_lot : DefOk P w K mg base CX0 5 "is_asked_lot" ["value"] (p_is_asked_lot K)) (F : TopD K mg "is_answer" s_is_answer ["value"] f fd) : DefOk P w K mg base CX0 6 "is_answer" ["value"] (p_is_answer K) := by
  refine F.ok (F.fn.ok sc_is_answer (fun _ _ _ _ => Pu.len) (fun cdv A outer s H vs Q E hr h => ⟨_, (pss_cons (ps_if (PW.pt (pw_or (pt_not (pt_val (pe_d D_is_tuple hr pass0 (pa_cons (pv 0) (pa_cons pe_int pa_nil))))) (pw_or (pt_not (pt_val (pe_d D_is_asked_lot hr pass0 (pa_cons (pe_ix (kIx (K := K) rfl) (pv 0) pe_int (fun _ _ => rfl)) pa_nil)))) (pw_or1 (pt_not (pt_val (pe_d D_is_count hr pass0 (pa_cons (pe_ix (kIx (K := K) rfl) (pv 0) pe_int (fun _ _ => rfl)) pa_nil)))))))) (pss_one (ps_ret pe_bl)) pss_nil)
      (pss_cons (ps_asg (pv 0) (kTup (K := K) (n := 3) rfl rfl (pgs_cons (pg_name (i := 1) sc_is_answer.nd rfl (.inl rfl)) (pgs_cons (pg_name (i := 2) sc_is_answer.nd rfl (.inl rfl)) (pgs_cons (pg_name (i := 3) sc_is_answer.nd rfl (.inl rfl)) pgs_nil)))))
      (pss_one (ps_ret (pe_or (pe_cmpR op_isN (pv 3) pe_non (nomark _)) (pe_one (pe_and (pe_d D_is_integer hr pass0 (pa_cons (pv 3) pa_nil)) (pe_one (pe_cmpR op_ge (pv 3) (pv 2) (nomark _)))))))))),
    pu_start h (by decide) fun r ds Ψ hl hR => ?_⟩))
  try dsimp only [cxOf, Cx.nox]
  obtain ⟨v, rfl⟩ := ds1 hl
  dsimp only [r1] at hR
  obtain ⟨hs, hR⟩ := hR
  repeat trivial
  cases ht : isT 3 v with
  | false =>
    have e : isAns v = false := by
      unfold isAns
      cases v with
      | tup l =>
        match l, ht with
        | [], _ => rfl
        | [_], _ => rfl
        | [_, _], _ => rfl
        | [_, _, _], ht => cases ht
        | _ :: _ :: _ :: _ :: _, _ => rfl
      | sqt l =>
        match l, ht with
        | [], _ => rfl
        | [_], _ => rfl
        | [_, _], _ => rfl
        | [_, _, _], ht => cases ht
        | _ :: _ :: _ :: _ :: _, _ => rfl
      | _ => rfl
    rw [e] at hR
    repeat trivial
  | true =>
    have key : ∃ a b c, tupOf v = some [a, b, c] ∧ SeqD v [a, b, c] ∧ (v = .tup [a, b, c] ∨ v = .sqt [a, b, c]) := by
      cases v with
      | tup l =>
        match l, ht with
        | [a, b, c], _ => exact ⟨a, b, c, rfl, .tup _, .inl rfl⟩
        | [], ht => cases ht
        | [_], ht => cases ht
        | [_, _], ht => cases ht
        | x1 :: x2 :: x3 :: x4 :: r, ht =>
          have z := of_decide_eq_true (show decide (((x1 :: x2 :: x3 :: x4 :: r).length : Int) = 3) = true from ht)
          simp only [List.length_cons] at z
          omega
      | sqt l =>
        match l, ht with
        | [a, b, c], _ => exact ⟨a, b, c, rfl, .sqt _, .inr rfl⟩
        | [], ht => cases ht
        | [_], ht => cases ht
        | [_, _], ht => cases ht
        | x1 :: x2 :: x3 :: x4 :: r, ht =>
          have z := of_decide_eq_true (show decide (((x1 :: x2 :: x3 :: x4 :: r).length : Int) = 3) = true from ht)
          simp only [List.length_cons] at z
          omega
      | _ => cases ht
    obtain ⟨a, b, c, k1, k2, k3⟩ := key
    unfold isAns at hR
    rw [k1] at hR
    dsimp only at hR
    have hsa : small1 a := by
      refine hs a ?_
      rw [k2.items.1]
      exact List.mem_cons_self
    repeat trivial
    refine ⟨_, opd_ix k2 (n := 0) rfl, ?_⟩
    repeat trivial
    cases h1 : isAsk a with
    | false =>
      rw [h1, Bool.false_and] at hR
      repeat trivial
    | true =>
      rw [h1, Bool.true_and] at hR
      repeat trivial
      refine ⟨_, opd_ix k2 (n := 1) rfl, ?_⟩
      repeat trivial
      cases h2 : isC b with
      | false =>
        rw [h2, Bool.false_and] at hR
        repeat trivial
      | true =>
        rw [h2, Bool.true_and] at hR
        have hb : ∃ i : Int, b = .int i := by
          cases b with
          | int i => exact ⟨i, rfl⟩
          | _ => cases h2
        obtain ⟨i, rfl⟩ := hb
        repeat trivial
        rcases k3 with rfl | rfl
        all_goals repeat trivial
        all_goals
          cases hn : c.isN with
          | true =>
            rw [hn, Bool.true_or] at hR
            repeat trivial
          | false =>
            rw [hn, Bool.false_or] at hR
            repeat trivial
            cases hi : isI c with
            | false =>
              rw [hi, Bool.false_and] at hR
              repeat trivial
            | true =>
              rw [hi, Bool.true_and] at hR
              have hc : ∃ j : Int, c = .int j := by
                cases c with
                | int i => exact ⟨i, rfl⟩
                | _ => cases hi
              obtain ⟨j, rfl⟩ := hc
              repeat trivial
theorem isAns_three {v : Dt} (h : isAns v = true) : ∃ a b c, (v = .tup [a, b, c] ∨ v = .sqt [a, b, c]) ∧ isAsk a = true ∧ isC b = true ∧ (c.isN || (isI c && decide (b.toI ≤ c.toI))) = true ∧ v.items = [a, b, c] ∧ (v.isLst || v.isTup) = true := by
  have go : ∀ l, tupOf v = some l → (v = .tup l ∨ v = .sqt l) := by
    intro l e
    cases v with
    | tup l' => cases e; exact .inl rfl
    | sqt l' => cases e; exact .inr rfl
    | _ => cases e
  unfold isAns at h
  cases e : tupOf v with
  | none =>
    rw [e] at h
    cases h
  | some l =>
    rw [e] at h
    match l, h, e with
    | [a, b, c], h, e =>
      have h' : (isAsk a && (isC b && (c.isN || (isI c && decide (b.toI ≤ c.toI))))) = true := h
      rw [Bool.and_eq_true, Bool.and_eq_true] at h'
      refine ⟨a, b, c, go _ e, h'.1, h'.2.1, h'.2.2, ?_, ?_⟩
      · rcases go _ e with rfl | rfl <;> rfl
      · rcases go _ e with rfl | rfl <;> rfl
theorem d_is_answers (B : Bi mg) (D_is_list : DefOk P w K mg base CX0 1 "is_list" ["value"] (p_is_list K)) (D_is_answer : DefOk P w K mg base CX0 6 "is_answer" ["value"] (p_is_answer K)) (D_lot_number : DefOk P w K mg base CX0 1 "lot_number" ["lot"] (p_lot_number K))
    (F : TopD K mg "is_answers" s_is_answers ["value"] f fd) : DefOk P w K mg base CX0 7 "is_answers" ["value"] (p_is_answers K) := by
  refine F.ok (F.fn.ok sc_is_answers (fun _ _ _ _ => Pu.len) (fun cdv A outer s H vs Q E hr h => ⟨_, (pss_cons (ps_if (PW.pt (pw_or (pt_not (pt_val (pe_d D_is_list hr pass0 (pa_cons (pv 0) pa_nil)))) (pw_or1 (pt_not (pt_val (pe_b (kAll (K := K) rfl rfl) B.all (pa_cons (pe_lc (own := [("item", 1)]) (g := (gName 1)) (tt := tYes) rfl sc_is_answers.nd (kSeq (K := K) rfl (pv 0)) (blkOk_by (own := [("item", 1)]) (N := ["value", "item", "lot", "low", "high"]) (sc := defScope s_is_answers) (by decide +kernel)) (fun _ _ _ _ _ => (pg_name (i := 1) sc_is_answers.nd rfl (.inl rfl))) (fun _ _ _ _ _ => pts_nil) (fun _ _ _ _ _ => (pe_d D_is_answer hr pass0 (pa_cons (pv 1) pa_nil)))) pa_nil))))))) (pss_one (ps_ret pe_bl)) pss_nil)
      (pss_one (ps_ret (pe_cmpR op_eq (pe_lenS B.len B.set (pe_lc (own := [("lot", 2), ("low", 3), ("high", 4)]) (g := (gTup K 3 (gCons (gName 2) (gCons (gName 3) (gCons (gName 4) gNil))))) (tt := tYes) rfl sc_is_answers.nd (kSeq (K := K) rfl (pv 0)) (blkOk_by (own := [("lot", 2), ("low", 3), ("high", 4)]) (N := ["value", "item", "lot", "low", "high"]) (sc := defScope s_is_answers) (by decide +kernel)) (fun _ _ _ _ _ => (kTup (K := K) (n := 3) rfl rfl (pgs_cons (pg_name (i := 2) sc_is_answers.nd rfl (.inl rfl)) (pgs_cons (pg_name (i := 3) sc_is_answers.nd rfl (.inl rfl)) (pgs_cons (pg_name (i := 4) sc_is_answers.nd rfl (.inl rfl)) pgs_nil))))) (fun _ _ _ _ _ => pts_nil) (fun _ _ _ _ _ => (pe_d D_lot_number hr pass0 (pa_cons (pv 2) pa_nil))))) (pe_b (kLen (K := K) rfl) B.len (pa_cons (pv 0) pa_nil)) (nomark _))))),
    pu_start h (by decide) fun r ds Ψ hl hR => ?_⟩))
  try dsimp only [cxOf, Cx.nox]
  obtain ⟨v, rfl⟩ := ds1 hl
  dsimp only [r1] at hR
  obtain ⟨⟨hs1, hs2⟩, hR⟩ := hR
  unfold isAnsW at hR
  repeat trivial
  cases hq : (v.isLst || v.isTup) with
  | false =>
    rw [hq, Bool.false_and] at hR
    repeat trivial
  | true =>
    rw [hq, Bool.true_and] at hR
    have q := SeqD.of hq
    repeat trivial
    refine EvN.ev (en_lcF (fun _ h => h) (src_seq ?_))
    repeat trivial
    refine ⟨v.items, q, Nat.le_trans hs1 (by decide), rfl, fun i => some (.bl (isAns (itemOf v.items i))), fun i hi => tg_name (Nat.le_of_ble_eq_true rfl) ?_, ?_⟩
    · have hm : itemOf v.items i ∈ v.items := List.mem_of_getElem? (itemOf_get hi)
      have hs := hs2 _ hm
      repeat trivial
    · repeat trivial
      rw [range_bls]
      refine ⟨_, cbd_all, ?_⟩
      repeat trivial
      rw [all_map_id]
      cases hall : v.items.all isAns with
      | false =>
        rw [hall, Bool.false_and] at hR
        repeat trivial
      | true =>
        rw [hall, Bool.true_and] at hR
        repeat trivial
        refine EvN.ev (en_lcF (js := [2] ++ ([3] ++ ([4] ++ []))) (fun _ h => h) (src_seq ?_))
        repeat trivial
        refine ⟨v.items, q, Nat.le_trans hs1 (by decide), rfl, fun i => some (.int (lotNo (itemOf v.items i))), fun i hi => ?_, ?_⟩
        · have hm : itemOf v.items i ∈ v.items := List.mem_of_getElem? (itemOf_get hi)
          obtain ⟨a, b, c, h1, h2, h3, h4, h5, h6⟩ := isAns_three (List.all_eq_true.mp hall _ hm)
          obtain ⟨ns, k1, k2, k3, k4, k5⟩ := isAsk_ints h2
          have e : lotNo (itemOf v.items i) = lotN ns := by
            unfold lotNo
            rw [h5, ← k2]
            rfl
          have hin : ∀ n ∈ ns, 0 ≤ n ∧ n ≤ 1000 := fun n hn => by
            have z := k3 n hn
            omega
          have hle : ns.length ≤ 1000 := by omega
          rcases h1 with h1 | h1
          all_goals rw [h1]
          all_goals repeat trivial
          all_goals exact ⟨ns, k1, hle, hin, rfl, congrArg (fun z => some (Dt.int z)) e⟩
        · repeat trivial
          have e : (List.range v.items.length).filterMap (fun i => some (Dt.int (lotNo (itemOf v.items i)))) = (v.items.map lotNo).map Dt.int := range_ints lotNo v.items
          refine ⟨v.items.map lotNo, by rw [e]; exact .lst _, by rw [List.length_map]; exact hs1, fun c hc => ?_⟩
          repeat trivial
          refine ⟨_, cbd_len q, ?_⟩
          repeat trivial
          rw [List.length_map] at hc
          have e2 : decide ((c : Int) = (v.items.length : Int)) = decide (v.items.map lotNo).Nodup := by
            by_cases h : (v.items.map lotNo).Nodup
            · rw [decide_eq_true h, decide_eq_true (by rw [hc.mpr h])]
            · rw [decide_eq_false h, decide_eq_false fun z => h (hc.mp (by omega))]
          rw [e2]
          exact hR
/-- raises InvalidAnswers (at CA), or goes on -/
abbrev p_check_answers (K : PySem.W.Frag) (CA : Addr) : Sp := PuV K 1 (v1 fun x a Ψ Ξ => small3 a ∧ (isAnsW a = true → Ψ .non) ∧ (isAnsW a = false → Ξ CA x))
abbrev p_check_asked_lot (K : PySem.W.Frag) (CL : Addr) : Sp := PuV K 1 (v1 fun x a Ψ Ξ => small1 a ∧ (isAsk a = true → Ψ .non) ∧ (isAsk a = false → Ξ CL x))
theorem d_check_answers {CA : Addr} (B : Bi mg) (E_InvalidAnswers : ErrOk P w K mg base "InvalidAnswers" CA) (D_is_answers : DefOk P w K mg base CX0 7 "is_answers" ["value"] (p_is_answers K))
    (F : TopD K mg "check_answers" s_check_answers ["answers"] f fd) : DefOk P w K mg base (L2.CX P w) 8 "check_answers" ["answers"] (p_check_answers K CA) := by
  refine F.ok (F.fn.okX sc_check_answers (fun _ _ _ _ => PuV.len) (fun cdv A outer s H vs Q E hr h => ⟨_, (pss_one (ps_if (pt_not (pt_val (pe_d D_is_answers hr pass0 (pa_cons (pv 0) pa_nil)))) (pss_one (ps_raiseE E_InvalidAnswers hr (takes_of rfl rfl rfl rfl) (pv 0))) pss_nil)),
    pv_start h (by decide) fun r ds Ψ Ξ hl hR hD hW => ?_⟩))
  try dsimp only [cxOf, Cx.nox]
  obtain ⟨v, rfl⟩ := ds1 hl
  obtain ⟨xv, rfl, hxv⟩ := da1 hD
  dsimp only [v1] at hR
  obtain ⟨hs, hR1, hR2⟩ := hR
  repeat trivial
  cases h : isAnsW v with
  | true =>
    have hR := hR1 h
    repeat trivial
  | false =>
    have hR := hR2 h
    exact ite_t rfl (sv_raiseV E_InvalidAnswers (hW _) rfl hR)
theorem d_check_asked_lot {CL : Addr} (B : Bi mg) (E_InvalidLot : ErrOk P w K mg base "InvalidLot" CL) (D_is_asked_lot : DefOk P w K mg base CX0 5 "is_asked_lot" ["value"] (p_is_asked_lot K))
    (F : TopD K mg "check_asked_lot" s_check_asked_lot ["lot"] f fd) : DefOk P w K mg base (L2.CX P w) 6 "check_asked_lot" ["lot"] (p_check_asked_lot K CL) := by
  refine F.ok (F.fn.okX sc_check_asked_lot (fun _ _ _ _ => PuV.len) (fun cdv A outer s H vs Q E hr h => ⟨_, (pss_one (ps_if (pt_not (pt_val (pe_d D_is_asked_lot hr pass0 (pa_cons (pv 0) pa_nil)))) (pss_one (ps_raiseE E_InvalidLot hr (takes_of rfl rfl rfl rfl) (pv 0))) pss_nil)),
    pv_start h (by decide) fun r ds Ψ Ξ hl hR hD hW => ?_⟩))
  try dsimp only [cxOf, Cx.nox]
  obtain ⟨v, rfl⟩ := ds1 hl
  obtain ⟨xv, rfl, hxv⟩ := da1 hD
  dsimp only [v1] at hR
  obtain ⟨hs, hR1, hR2⟩ := hR
  repeat trivial
  cases h : isAsk v with
  | true =>
    have hR := hR1 h
    repeat trivial
  | false =>
    have hR := hR2 h
    exact ite_t rfl (sv_raiseV E_InvalidLot (hW _) rfl hR)
end
end Cp
/-! K81d: bounds -/
namespace Cp
open PySem PySem.Spec PyProof.Rows L2
local macro_rules | `(tactic| trivial) => `(tactic| with_reducible refine ea_nil ?_)
local macro_rules | `(tactic| trivial) => `(tactic| with_reducible refine ea_cons ?_)
local macro_rules | `(tactic| trivial) => `(tactic| with_reducible refine et_test ?_)
local macro_rules | `(tactic| trivial) => `(tactic| with_reducible refine et_yes ?_)
local macro_rules | `(tactic| trivial) => `(tactic| with_reducible refine et_B ?_)
local macro_rules | `(tactic| trivial) => `(tactic| with_reducible refine ev_lenS ?_)
local macro_rules | `(tactic| trivial) => `(tactic| with_reducible refine et_and ?_)
local macro_rules | `(tactic| trivial) => `(tactic| with_reducible refine et_or ?_)
local macro_rules | `(tactic| trivial) => `(tactic| with_reducible refine et_not ?_)
local macro_rules | `(tactic| trivial) => `(tactic| with_reducible refine ev_if ?_)
local macro_rules | `(tactic| trivial) => `(tactic| with_reducible refine ev_chain ?_)
local macro_rules | `(tactic| trivial) => `(tactic| with_reducible refine ev_and ?_)
local macro_rules | `(tactic| trivial) => `(tactic| with_reducible refine ev_or ?_)
local macro_rules | `(tactic| trivial) => `(tactic| with_reducible refine ev_not ?_)
local macro_rules | `(tactic| trivial) => `(tactic| with_reducible refine ev_op ?_)
local macro_rules | `(tactic| trivial) => `(tactic| with_reducible refine ev_cb ?_)
local macro_rules | `(tactic| trivial) => `(tactic| with_reducible refine ev_isi kit_int ?_)
local macro_rules | `(tactic| trivial) => `(tactic| with_reducible refine ev_isi kit_bool ?_)
local macro_rules | `(tactic| trivial) => `(tactic| with_reducible refine ev_isi kit_str ?_)
local macro_rules | `(tactic| trivial) => `(tactic| with_reducible refine ev_isi kit_list ?_)
local macro_rules | `(tactic| trivial) => `(tactic| with_reducible refine ev_isi kit_tuple ?_)
local macro_rules | `(tactic| trivial) => `(tactic| with_reducible refine ev_isi2 kit_list kit_tuple ?_)
local macro_rules | `(tactic| trivial) => `(tactic| with_reducible refine ev_call ?_)
local macro_rules | `(tactic| trivial) => `(tactic| with_reducible refine ev_tup ?_)
local macro_rules | `(tactic| trivial) => `(tactic| with_reducible refine ev_i ?_)
local macro_rules | `(tactic| trivial) => `(tactic| with_reducible refine ev_b ?_)
local macro_rules | `(tactic| trivial) => `(tactic| with_reducible refine ev_n ?_)
local macro_rules | `(tactic| trivial) => `(tactic| with_reducible refine ev_s ?_)
local macro_rules | `(tactic| trivial) => `(tactic| ((with_reducible apply ev_var); · exact rfl))
local macro_rules | `(tactic| trivial) => `(tactic| ((with_reducible apply ev_varV); (· exact rfl); (· assumption)))
local macro_rules | `(tactic| trivial) => `(tactic| with_reducible refine sv_ret ?_)
local macro_rules | `(tactic| trivial) => `(tactic| with_reducible refine sv_if ?_)
local macro_rules | `(tactic| trivial) => `(tactic| (with_reducible refine sv_nx ?_))
local macro_rules | `(tactic| trivial) => `(tactic| ((with_reducible apply le_and); · exact rfl))
local macro_rules | `(tactic| trivial) => `(tactic| ((with_reducible apply lt_and); · exact rfl))
local macro_rules | `(tactic| trivial) => `(tactic| ((with_reducible apply ex_and); · exact rfl))
local macro_rules | `(tactic| trivial) => `(tactic| (((with_reducible apply eq_and); · exact rfl); try dsimp only [r0, r1, r2, r3, r4, x1, x2]))
local macro_rules | `(tactic| trivial) => `(tactic| with_reducible refine ⟨_, opd_I0, ?_⟩)
local macro_rules | `(tactic| trivial) => `(tactic| with_reducible refine ⟨_, opd_B0, ?_⟩)
local macro_rules | `(tactic| trivial) => `(tactic| with_reducible refine ⟨_, opd_isN, ?_⟩)
local macro_rules | `(tactic| trivial) => `(tactic| with_reducible refine ⟨_, opd_notN, ?_⟩)
local macro_rules | `(tactic| trivial) => `(tactic| with_reducible refine ⟨_, opd_isB, ?_⟩)
local macro_rules | `(tactic| trivial) => `(tactic| with_reducible refine ⟨_, opd_eqI, ?_⟩)
local macro_rules | `(tactic| trivial) => `(tactic| with_reducible refine ⟨_, opd_neI, ?_⟩)
local macro_rules | `(tactic| trivial) => `(tactic| ((with_reducible apply ite_t); · exact rfl))
local macro_rules | `(tactic| trivial) => `(tactic| ((with_reducible apply ite_f); · exact rfl))
local macro_rules | `(tactic| trivial) => `(tactic| with_reducible refine sv_seq ?_)
local macro_rules | `(tactic| trivial) => `(tactic| with_reducible refine tgl_nil ?_)
local macro_rules | `(tactic| trivial) => `(tactic| with_reducible apply tgl_cons)
local macro_rules | `(tactic| trivial) => `(tactic| ((with_reducible apply tg_tup); · exact rfl))
local macro_rules | `(tactic| trivial) => `(tactic| ((with_reducible apply tg_sqt); · exact rfl))
local macro_rules | `(tactic| trivial) => `(tactic| ((with_reducible refine tg_name ?_ ?_); · exact Nat.le_of_ble_eq_true rfl))
local macro_rules | `(tactic| trivial) => `(tactic| with_reducible refine sv_drop (te := tCallS _ _ _) ?_)
local macro_rules | `(tactic| trivial) => `(tactic| with_reducible refine sv_asg (te := tOp _ _ _) ?_)
local macro_rules | `(tactic| trivial) => `(tactic| with_reducible refine sv_asg (te := tCall _ _ _ _) ?_)
local macro_rules | `(tactic| trivial) => `(tactic| with_reducible refine sv_asg (te := tCallS _ _ _) ?_)
local macro_rules | `(tactic| trivial) => `(tactic| with_reducible refine sv_asg (te := tIf _ _ _) ?_)
local macro_rules | `(tactic| trivial) => `(tactic| with_reducible refine sv_asg (te := tVar _) ?_)
local macro_rules | `(tactic| trivial) => `(tactic| with_reducible refine sv_asg (te := tC _) ?_)
local macro_rules | `(tactic| trivial) => `(tactic| with_reducible refine sv_asg (te := tTup _) ?_)
local macro_rules | `(tactic| trivial) => `(tactic| with_reducible refine sv_asg (te := tAndV _ _) ?_)
local macro_rules | `(tactic| trivial) => `(tactic| with_reducible refine sv_asg (te := tOrV _ _) ?_)
local macro_rules | `(tactic| trivial) => `(tactic| with_reducible refine sv_asg (te := tNotV _) ?_)
local macro_rules | `(tactic| trivial) => `(tactic| with_reducible refine sv_asg (te := tDGet _ _) ?_)
local macro_rules | `(tactic| trivial) => `(tactic| with_reducible refine sv_asg (te := tUn _ _) ?_)
local macro_rules | `(tactic| trivial) => `(tactic| with_reducible apply sv_asgTp)
abbrev s_bounds_of : Stmt := topS 23
theorem sc_bounds_of : FnScope ["answers", "found", "number", "lot", "low", "high"] ["answers"] (defScope s_bounds_of) := ⟨rfl, rfl, rfl, by decide +kernel, rfl, by decide +kernel, by decide +kernel⟩
abbrev s_lesser : Stmt := topS 24
theorem sc_lesser : FnScope ["one", "other"] ["one", "other"] (defScope s_lesser) := ⟨rfl, rfl, rfl, by decide +kernel, rfl, by decide +kernel, by decide +kernel⟩
/-- each lot's number, the numbers of its two sides -/
def sd : List (Int × Int × Int) := [(1, 3, 5), (2, 3, 6), (3, 1, 2), (4, 5, 6), (5, 1, 4), (6, 2, 4)]
def sidesD : List (Int × Dt) := sd.map fun s => (s.1, .sqt [.int s.2.1, .int s.2.2])
/-- the table SIDES as it stands -/
def Sides (K : PySem.W.Frag) (mg : Str → Option Value) : Prop := ∃ (d : Addr) (kvs : List (Int × V)) (es : Array DictEntry) (ep : Nat) (o : Obj), mg "SIDES" = some (.ref d) ∧ WDict K d kvs es ep o ∧ WVals K kvs sidesD
abbrev Bd := Int → Int × Option Int
def ks6 : List Key := [.inl 1, .inl 2, .inl 3, .inl 4, .inl 5, .inl 6]
def bF (b : Bd) : Key → Dt
  | .inl n => .tup [.int (b n).1, oi (b n).2]
  | .inr _ => .non
def bD (b : Bd) : List (Key × Dt) := gd ks6 (bF b)
def upB (b : Bd) (n : Int) (x : Int × Option Int) : Bd := fun m => if m = n then x else b m
def tF (t : Int → Option Int) : Key → Dt
  | .inl n => oi (t n)
  | .inr _ => .non
def tD (t : Int → Option Int) : List (Key × Dt) := gd ks6 (tF t)
def hiOf : Dt → Option Int
  | .int i => some i
  | _ => none
def anOf (d : Dt) : Int × Int × Option Int := (lotNo d, (d.items.getD 1 .non).toI, hiOf (d.items.getD 2 .non))
def bnds (l : List (Int × Int × Option Int)) : Bd := l.foldl (fun b a => upB b a.1 a.2) fun _ => (0, none)
def lessO : Option Int → Option Int → Option Int
  | none, y => y
  | some x, none => some x
  | some x, some y => some (min x y)
def sumO : Option Int → Option Int → Option Int
  | some x, some y => some (x + y)
  | _, _ => none
def isSix (n : Int) : Prop := 1 ≤ n ∧ n ≤ 6
def sdp (n : Int) : Int × Int := if n = 1 then (3, 5) else if n = 2 then (3, 6) else if n = 3 then (1, 2) else if n = 4 then (5, 6) else if n = 5 then (1, 4) else (2, 4)
def topsB (b : Bd) : Int → Option Int := fun n => lessO (b n).2 (sumO (b (sdp n).1).2 (b (sdp n).2).2)
def fitsN (b : Bd) (n : Int) : Bool := match topsB b n with
  | none => true
  | some h => decide ((b n).1 ≤ h)
def fitsB (b : Bd) : Bool := [1, 2, 3, 4, 5, 6].all fun n => fitsN b n
def lowS (b : Bd) (n : Int) (s : Int × Int × Int) : Option Int := if n = s.2.1 ∨ n = s.2.2 then (b (s.2.1 + s.2.2 - n)).2.map fun h => (b s.1).1 - h else none
def lowL (b : Bd) (n : Int) : List Int := (b n).1 :: sd.filterMap (lowS b n)
def maxL : List Int → Int
  | [] => 0
  | x :: l => l.foldl max x
theorem foldl_max : ∀ (l : List Int) (x : Int), (l.foldl max x ∈ x :: l) ∧ ∀ y ∈ x :: l, y ≤ l.foldl max x
  | [], x => ⟨List.mem_cons_self, fun y hy => by
    rw [List.mem_singleton.mp hy]
    exact Int.le_refl _⟩
  | a :: l, x => by
    obtain ⟨h1, h2⟩ := foldl_max l (max x a)
    rw [List.foldl_cons]
    refine ⟨?_, fun y hy => ?_⟩
    · rcases List.mem_cons.mp h1 with e | e
      · rw [e]
        rcases Int.le_total x a with c | c
        · rw [Int.max_eq_right c]
          exact List.mem_cons_of_mem _ List.mem_cons_self
        · rw [Int.max_eq_left c]
          exact List.mem_cons_self
      · exact List.mem_cons_of_mem _ (List.mem_cons_of_mem _ e)
    · have hm := h2 (max x a) List.mem_cons_self
      rcases List.mem_cons.mp hy with e | e
      · rw [e]
        omega
      · rcases List.mem_cons.mp e with e | e
        · rw [e]
          omega
        · exact h2 y (List.mem_cons_of_mem _ e)
def lowestB (b : Bd) (n : Int) : Int := maxL (lowL b n)
theorem six_key {n : Int} (h : isSix n) : (Sum.inl n : Key) ∈ ks6 := by
  obtain ⟨h1, h2⟩ := h
  have c : n = 1 ∨ n = 2 ∨ n = 3 ∨ n = 4 ∨ n = 5 ∨ n = 6 := by omega
  rcases c with rfl | rfl | rfl | rfl | rfl | rfl <;> simp [ks6]
theorem bD_look {b : Bd} {n : Int} (h : isSix n) : lookD (bD b) (.inl n) = some (.tup [.int (b n).1, oi (b n).2]) := gd_look (six_key h)
theorem tD_look {t : Int → Option Int} {n : Int} (h : isSix n) : lookD (tD t) (.inl n) = some (oi (t n)) := gd_look (six_key h)
theorem bD_put {b : Bd} {n : Int} (h : isSix n) (x : Int) (y : Option Int) : putD (bD b) (.inl n) (.tup [.int x, oi y]) = bD (upB b n (x, y)) := by
  unfold bD
  rw [gd_put (six_key h)]
  congr 1
  funext k
  unfold gset
  cases k with
  | inl m =>
    show (if (Sum.inl m : Key) = Sum.inl n then _ else _) = Dt.tup [.int (if m = n then (x, y) else b m).1, oi (if m = n then (x, y) else b m).2]
    by_cases e : m = n
    · rw [if_pos (by rw [e]), if_pos e]
    · rw [if_neg fun z => e (Sum.inl.inj z), if_neg e]
      rfl
  | inr s => rfl
theorem lotNo_six {a : Dt} (h : isAsk a = true) : isSix (lotN (a.items.map Dt.toI)) := by
  obtain ⟨ns, k1, k2, k3, k4, k5, k6, k7⟩ := isAsk_ints h
  rw [k2]
  have nd : ns.Nodup ∧ ascB ns = true := by
    unfold isLotD areX at k5
    rw [Bool.and_eq_true, Bool.and_eq_true, Bool.and_eq_true, k2] at k5
    exact ⟨of_decide_eq_true k5.2.1.2, k5.2.2⟩
  have val : ∀ x : Int, 0 ≤ x ∧ x < 3 → (1 : Int) * 2 ^ x.toNat = 1 ∧ x = 0 ∨ (1 : Int) * 2 ^ x.toNat = 2 ∧ x = 1 ∨ (1 : Int) * 2 ^ x.toNat = 4 ∧ x = 2 := fun x hx => by
    have c : x = 0 ∨ x = 1 ∨ x = 2 := by omega
    rcases c with rfl | rfl | rfl
    · exact .inl ⟨rfl, rfl⟩
    · exact .inr (.inl ⟨rfl, rfl⟩)
    · exact .inr (.inr ⟨rfl, rfl⟩)
  match ns, k3, k4, k7, nd with
  | [x], k3, _, _, _ =>
    have hx := val x (k3 x List.mem_cons_self)
    unfold isSix lotN
    simp only [List.map_cons, List.map_nil, List.sum_cons, List.sum_nil]
    omega
  | [x, y], k3, _, _, nd =>
    have hx := val x (k3 x List.mem_cons_self)
    have hy := val y (k3 y (List.mem_cons_of_mem _ List.mem_cons_self))
    have ne : x ≠ y := fun e => by
      have := nd.1
      rw [e] at this
      simp at this
    unfold isSix lotN
    simp only [List.map_cons, List.map_nil, List.sum_cons, List.sum_nil]
    omega
  | [], _, _, k7, _ => exact absurd k7 (by simp)
  | _ :: _ :: _ :: _, _, k4, _, _ => exact absurd k4 (by simp)
section
variable {P : Program} {w : World} {K : PySem.W.Frag} {mg : Str → Option Value} {base : Heap} {f : Addr} {fd : FuncData}
abbrev p_bounds_of (K : PySem.W.Frag) : Sp := Pu K 1 (r1 fun a Ψ => small3 a ∧ isAnsW a = true ∧ Ψ (.dk (bD (bnds (a.items.map anOf)))))
abbrev p_lesser (K : PySem.W.Frag) : Sp := Pu K 2 (r2 fun a b Ψ => ∃ x y, a = oi x ∧ b = oi y ∧ Ψ (oi (lessO x y)))
abbrev p_tops (K : PySem.W.Frag) : Sp := Pu K 1 (r1 fun a Ψ => ∃ b, a = .dk (bD b) ∧ Ψ (.dk (tD (topsB b))))
abbrev p_fits (K : PySem.W.Frag) : Sp := Pu K 1 (r1 fun a Ψ => ∃ b, a = .dk (bD b) ∧ Ψ (.bl (fitsB b)))
abbrev p_lowest (K : PySem.W.Frag) : Sp := Pu K 2 (r2 fun a c Ψ => ∃ b n, a = .dk (bD b) ∧ c = .int n ∧ isSix n ∧ Ψ (.int (lowestB b n)))
theorem d_lesser (B : Bi mg) (F : TopD K mg "lesser" s_lesser ["one", "other"] f fd) : DefOk P w K mg base CX0 1 "lesser" ["one", "other"] (p_lesser K) := by
  refine F.ok (F.fn.ok sc_lesser (fun _ _ _ _ => Pu.len) (fun cdv A outer s H vs Q E hr h => ⟨_, (pss_cons (ps_if (PW.pt (pw_or (pt_cmpR op_isN (pv 0) pe_non (nomark _)) (pw_or1 (pt_cmpR op_isN (pv 1) pe_non (nomark _))))) (pss_one (ps_ret (pe_ifExp (pt_cmpR op_isN (pv 0) pe_non (nomark _)) (pv 1) (pv 0)))) pss_nil)
      (pss_one (ps_ret (pe_b (call_min2 rfl) B.min (pa_cons (pv 0) (pa_cons (pv 1) pa_nil)))))),
    pu_start h (by decide) fun r ds Ψ hl hR => ?_⟩))
  try dsimp only [cxOf, Cx.nox]
  obtain ⟨a, b, rfl⟩ := ds2 hl
  dsimp only [r2] at hR
  obtain ⟨x, y, rfl, rfl, hR⟩ := hR
  cases x with
  | none =>
    repeat trivial
  | some x =>
    cases y with
    | none => repeat trivial
    | some y =>
      repeat trivial
      exact ⟨_, cbd_min2, hR⟩
theorem d_bounds_of (B : Bi mg) (S : Sides K mg) (D_lot_number : DefOk P w K mg base CX0 1 "lot_number" ["lot"] (p_lot_number K)) (F : TopD K mg "bounds_of" s_bounds_of ["answers"] f fd) : DefOk P w K mg base CX0 2 "bounds_of" ["answers"] (p_bounds_of K) := by
  obtain ⟨dS, kvs, es, ep, oS, hS, W, WV⟩ := S
  refine F.ok (F.fn.ok sc_bounds_of (fun _ _ _ _ => Pu.len) (fun cdv A outer s H vs Q E hr h => ⟨_, (pss_cons (ps_setDc (i := 1) (own := [("number", 2)]) (g := (gName 2)) (tt := tYes) rfl sc_bounds_of.nd rfl rfl (sw_trueD rfl rfl rfl (by decide +kernel)) (pi_wk W hS) (blkOk_by (own := [("number", 2)]) (N := ["answers", "found", "number", "lot", "low", "high"]) (sc := defScope s_bounds_of) (by decide +kernel)) (fun _ _ _ _ _ => (pg_name (i := 2) sc_bounds_of.nd rfl (.inl rfl))) (fun _ _ _ _ _ => pts_nil) (fun _ _ _ _ _ => (pv 2)) (fun _ _ _ _ _ => (pe_tup (pa_cons pe_int (pa_cons pe_non pa_nil)))))
      (pss_cons (ps_for PassesOwn.never rfl (kSeq (K := K) rfl (pv 0)) (kTup (K := K) (n := 3) rfl rfl (pgs_cons (pg_name (i := 3) sc_bounds_of.nd rfl (.inl rfl)) (pgs_cons (pg_name (i := 4) sc_bounds_of.nd rfl (.inl rfl)) (pgs_cons (pg_name (i := 5) sc_bounds_of.nd rfl (.inl rfl)) pgs_nil)))) (pss_one (ps_dput (hu_of hr) (pv 1) (pe_d D_lot_number hr pass0 (pa_cons (pv 3) pa_nil)) (pe_tup (pa_cons (pv 4) (pa_cons (pv 5) pa_nil))) rfl)))
      (pss_one (ps_ret (pv 1))))),
    pu_start h (by decide) fun r ds Ψ hl hR => ?_⟩))
  try dsimp only [cxOf, Cx.nox]
  obtain ⟨v, rfl⟩ := ds1 hl
  dsimp only [r1] at hR
  obtain ⟨⟨hs1, hs2⟩, ha, hR⟩ := hR
  unfold isAnsW at ha
  rw [Bool.and_eq_true, Bool.and_eq_true] at ha
  obtain ⟨hq, hall, hnd⟩ := ha
  have q := SeqD.of hq
  repeat trivial
  have hk : kvs.map (·.1) = [1, 2, 3, 4, 5, 6] := WV.keys
  have hn : kvs.length = 6 := WV.1
  refine sv_asgDc (fun _ h => h) (src_wk ?_)
  rw [hk, hn]
  refine ⟨by decide, rfl, fun i => [1, 2, 3, 4, 5, 6].getD i 0, fun _ => .tup [.int 0, .non], fun i j hi hj e => ?_, fun i hi => tg_name (Nat.le_of_ble_eq_true rfl) ?_, ?_⟩
  · have c : ∀ i j : Fin 6, ([1, 2, 3, 4, 5, 6] : List Int).getD i.val 0 = ([1, 2, 3, 4, 5, 6] : List Int).getD j.val 0 → i.val = j.val := by decide
    exact c ⟨i, hi⟩ ⟨j, hj⟩ e
  · repeat trivial
  · repeat trivial
    refine sv_for (js := [3] ++ ([4] ++ ([5] ++ []))) (src_seq ?_)
    repeat trivial
    refine ⟨v.items, q, fun i Γ => ∃ x y z, Γ = [.d v, .k (bD (bnds ((v.items.take i).map anOf))), .any, x, y, z], ⟨.any, .any, .any, rfl⟩, ?_, ?_⟩
    · rintro i Γ hi ⟨x, y, z, rfl⟩
      have hm : itemOf v.items i ∈ v.items := List.mem_of_getElem? (itemOf_get hi)
      obtain ⟨a, b, c, h1, h2, h3, h4, h5, h6⟩ := isAns_three (List.all_eq_true.mp hall _ hm)
      obtain ⟨ns, k1, k2, k3, k4, k5, k6, k7⟩ := isAsk_ints h2
      have hsix := lotNo_six h2
      rw [k2] at hsix
      have hb : ∃ i : Int, b = .int i := by
        cases b with
        | int i => exact ⟨i, rfl⟩
        | _ => cases h3
      obtain ⟨lo, rfl⟩ := hb
      have hc : ∃ o : Option Int, c = oi o := by
        cases c with
        | non => exact ⟨none, rfl⟩
        | int i => exact ⟨some i, rfl⟩
        | _ => cases h4
      obtain ⟨o, rfl⟩ := hc
      have e1 : anOf (itemOf v.items i) = (lotN ns, lo, o) := by
        unfold anOf lotNo
        rw [h5]
        show (lotN (a.items.map Dt.toI), lo, hiOf (oi o)) = _
        rw [k2]
        cases o <;> rfl
      have e2 : bnds ((v.items.take (i + 1)).map anOf) = upB (bnds ((v.items.take i).map anOf)) (lotN ns) (lo, o) := by
        rw [List.take_add_one, itemOf_get hi, Option.toList_some, List.map_append]
        unfold bnds
        rw [List.foldl_append]
        show upB _ (anOf (itemOf v.items i)).1 (anOf (itemOf v.items i)).2 = _
        rw [e1]
      have hin : ∀ n ∈ ns, 0 ≤ n ∧ n ≤ 1000 := fun n hn => by
        have z := k3 n hn
        omega
      have hle : ns.length ≤ 1000 := by omega
      have goal : ∀ x : Dt, SeqD x [a, .int lo, oi o] → Sv (r.at K noW noX) (sDPut (tVar 1) (tCall (p_lot_number K) [] E0 (tCons (tVar 3) tNil)) (tTup (tCons (tVar 4) (tCons (tVar 5) tNil))))
          [.d v, .k (bD (bnds ((v.items.take i).map anOf))), .any, .d a, .d (.int lo), .d (oi o)]
          { nx := fun Γ => ∃ x y z, Γ = [.d v, .k (bD (bnds ((v.items.take (i + 1)).map anOf))), .any, x, y, z], rt := fun d _ => Ψ d, ct := fun Γ => ∃ x y z, Γ = [.d v, .k (bD (bnds ((v.items.take (i + 1)).map anOf))), .any, x, y, z], bk := fun Γ => Sv (r.at K noW noX) (tRet (tVar 1)) Γ { nx := fun _ => Ψ .non, rt := fun d _ => Ψ d } } := fun x _ => by
        refine sv_dput ?_
        repeat trivial
        refine ⟨ns, k1, hle, hin, ?_⟩
        repeat trivial
        refine ⟨_, _, rfl, rfl, by unfold bD; rw [gd_len]; decide, ?_⟩
        refine ⟨.d a, .d (.int lo), .d (oi o), ?_⟩
        rw [bD_put hsix, e2]
        rfl
      rcases h1 with h1 | h1
      all_goals rw [h1]
      all_goals repeat trivial
      · exact goal _ (.tup _)
      · exact goal _ (.sqt _)
    · rintro Γ ⟨x, y, z, rfl⟩
      rw [List.take_length]
      refine sv_ret (ev_frzK rfl ?_)
      exact hR
end
end Cp
/-! K81e: tops, fits, lowest, the doors -/
namespace Cp
open PySem PySem.Spec PyProof.Rows L2
local macro_rules | `(tactic| trivial) => `(tactic| with_reducible refine ea_nil ?_)
local macro_rules | `(tactic| trivial) => `(tactic| with_reducible refine ea_cons ?_)
local macro_rules | `(tactic| trivial) => `(tactic| with_reducible refine et_test ?_)
local macro_rules | `(tactic| trivial) => `(tactic| with_reducible refine et_yes ?_)
local macro_rules | `(tactic| trivial) => `(tactic| with_reducible refine et_B ?_)
local macro_rules | `(tactic| trivial) => `(tactic| with_reducible refine ev_lenS ?_)
local macro_rules | `(tactic| trivial) => `(tactic| with_reducible refine et_and ?_)
local macro_rules | `(tactic| trivial) => `(tactic| with_reducible refine et_or ?_)
local macro_rules | `(tactic| trivial) => `(tactic| with_reducible refine et_not ?_)
local macro_rules | `(tactic| trivial) => `(tactic| with_reducible refine ev_if ?_)
local macro_rules | `(tactic| trivial) => `(tactic| with_reducible refine ev_chain ?_)
local macro_rules | `(tactic| trivial) => `(tactic| with_reducible refine ev_and ?_)
local macro_rules | `(tactic| trivial) => `(tactic| with_reducible refine ev_or ?_)
local macro_rules | `(tactic| trivial) => `(tactic| with_reducible refine ev_not ?_)
local macro_rules | `(tactic| trivial) => `(tactic| with_reducible refine ev_op ?_)
local macro_rules | `(tactic| trivial) => `(tactic| with_reducible refine ev_cb ?_)
local macro_rules | `(tactic| trivial) => `(tactic| with_reducible refine ev_isi kit_int ?_)
local macro_rules | `(tactic| trivial) => `(tactic| with_reducible refine ev_isi kit_bool ?_)
local macro_rules | `(tactic| trivial) => `(tactic| with_reducible refine ev_isi kit_str ?_)
local macro_rules | `(tactic| trivial) => `(tactic| with_reducible refine ev_isi kit_list ?_)
local macro_rules | `(tactic| trivial) => `(tactic| with_reducible refine ev_isi kit_tuple ?_)
local macro_rules | `(tactic| trivial) => `(tactic| with_reducible refine ev_isi2 kit_list kit_tuple ?_)
local macro_rules | `(tactic| trivial) => `(tactic| with_reducible refine ev_call ?_)
local macro_rules | `(tactic| trivial) => `(tactic| with_reducible refine ev_tup ?_)
local macro_rules | `(tactic| trivial) => `(tactic| with_reducible refine ev_i ?_)
local macro_rules | `(tactic| trivial) => `(tactic| with_reducible refine ev_b ?_)
local macro_rules | `(tactic| trivial) => `(tactic| with_reducible refine ev_n ?_)
local macro_rules | `(tactic| trivial) => `(tactic| with_reducible refine ev_s ?_)
local macro_rules | `(tactic| trivial) => `(tactic| ((with_reducible apply ev_var); · exact rfl))
local macro_rules | `(tactic| trivial) => `(tactic| ((with_reducible apply ev_varV); (· exact rfl); (· assumption)))
local macro_rules | `(tactic| trivial) => `(tactic| with_reducible refine sv_ret ?_)
local macro_rules | `(tactic| trivial) => `(tactic| with_reducible refine sv_if ?_)
local macro_rules | `(tactic| trivial) => `(tactic| (with_reducible refine sv_nx ?_))
local macro_rules | `(tactic| trivial) => `(tactic| ((with_reducible apply le_and); · exact rfl))
local macro_rules | `(tactic| trivial) => `(tactic| ((with_reducible apply lt_and); · exact rfl))
local macro_rules | `(tactic| trivial) => `(tactic| ((with_reducible apply ex_and); · exact rfl))
local macro_rules | `(tactic| trivial) => `(tactic| (((with_reducible apply eq_and); · exact rfl); try dsimp only [r0, r1, r2, r3, r4, x1, x2]))
local macro_rules | `(tactic| trivial) => `(tactic| with_reducible refine ⟨_, opd_I0, ?_⟩)
local macro_rules | `(tactic| trivial) => `(tactic| with_reducible refine ⟨_, opd_B0, ?_⟩)
local macro_rules | `(tactic| trivial) => `(tactic| with_reducible refine ⟨_, opd_isN, ?_⟩)
local macro_rules | `(tactic| trivial) => `(tactic| with_reducible refine ⟨_, opd_notN, ?_⟩)
local macro_rules | `(tactic| trivial) => `(tactic| with_reducible refine ⟨_, opd_isB, ?_⟩)
local macro_rules | `(tactic| trivial) => `(tactic| with_reducible refine ⟨_, opd_eqI, ?_⟩)
local macro_rules | `(tactic| trivial) => `(tactic| with_reducible refine ⟨_, opd_neI, ?_⟩)
local macro_rules | `(tactic| trivial) => `(tactic| ((with_reducible apply ite_t); · exact rfl))
local macro_rules | `(tactic| trivial) => `(tactic| ((with_reducible apply ite_f); · exact rfl))
local macro_rules | `(tactic| trivial) => `(tactic| with_reducible refine sv_seq ?_)
local macro_rules | `(tactic| trivial) => `(tactic| with_reducible refine tgl_nil ?_)
local macro_rules | `(tactic| trivial) => `(tactic| with_reducible apply tgl_cons)
local macro_rules | `(tactic| trivial) => `(tactic| ((with_reducible apply tg_tup); · exact rfl))
local macro_rules | `(tactic| trivial) => `(tactic| ((with_reducible apply tg_sqt); · exact rfl))
local macro_rules | `(tactic| trivial) => `(tactic| ((with_reducible refine tg_name ?_ ?_); · exact Nat.le_of_ble_eq_true rfl))
local macro_rules | `(tactic| trivial) => `(tactic| with_reducible refine sv_drop (te := tCallS _ _ _) ?_)
local macro_rules | `(tactic| trivial) => `(tactic| with_reducible refine sv_asg (te := tOp _ _ _) ?_)
local macro_rules | `(tactic| trivial) => `(tactic| with_reducible refine sv_asg (te := tCall _ _ _ _) ?_)
local macro_rules | `(tactic| trivial) => `(tactic| with_reducible refine sv_asg (te := tCallS _ _ _) ?_)
local macro_rules | `(tactic| trivial) => `(tactic| with_reducible refine sv_asg (te := tIf _ _ _) ?_)
local macro_rules | `(tactic| trivial) => `(tactic| with_reducible refine sv_asg (te := tVar _) ?_)
local macro_rules | `(tactic| trivial) => `(tactic| with_reducible refine sv_asg (te := tC _) ?_)
local macro_rules | `(tactic| trivial) => `(tactic| with_reducible refine sv_asg (te := tTup _) ?_)
local macro_rules | `(tactic| trivial) => `(tactic| with_reducible refine sv_asg (te := tAndV _ _) ?_)
local macro_rules | `(tactic| trivial) => `(tactic| with_reducible refine sv_asg (te := tOrV _ _) ?_)
local macro_rules | `(tactic| trivial) => `(tactic| with_reducible refine sv_asg (te := tNotV _) ?_)
local macro_rules | `(tactic| trivial) => `(tactic| with_reducible refine sv_asg (te := tDGet _ _) ?_)
local macro_rules | `(tactic| trivial) => `(tactic| with_reducible refine sv_asg (te := tUn _ _) ?_)
local macro_rules | `(tactic| trivial) => `(tactic| with_reducible apply sv_asgTp)
abbrev s_tops : Stmt := topS 25
theorem sc_tops : FnScope ["bounds", "found", "number", "one", "other", "sides"] ["bounds"] (defScope s_tops) := ⟨rfl, rfl, rfl, by decide +kernel, rfl, by decide +kernel, by decide +kernel⟩
abbrev s_fits : Stmt := topS 26
theorem sc_fits : FnScope ["bounds", "highest", "number"] ["bounds"] (defScope s_fits) := ⟨rfl, rfl, rfl, by decide +kernel, rfl, by decide +kernel, by decide +kernel⟩
abbrev s_lowest : Stmt := topS 27
theorem sc_lowest : FnScope ["bounds", "number", "found", "other", "sides", "beside"] ["bounds", "number"] (defScope s_lowest) := ⟨rfl, rfl, rfl, by decide +kernel, rfl, by decide +kernel, by decide +kernel⟩
abbrev s_known : Stmt := topS 28
theorem sc_known : FnScope ["answers", "bounds"] ["answers"] (defScope s_known) := ⟨rfl, rfl, rfl, by decide +kernel, rfl, by decide +kernel, by decide +kernel⟩
abbrev s_possible : Stmt := topS 29
theorem sc_possible : FnScope ["answers"] ["answers"] (defScope s_possible) := ⟨rfl, rfl, rfl, by decide +kernel, rfl, by decide +kernel, by decide +kernel⟩
abbrev s_between : Stmt := topS 30
theorem sc_between : FnScope ["answers", "lot", "bounds", "number"] ["answers", "lot"] (defScope s_between) := ⟨rfl, rfl, rfl, by decide +kernel, rfl, by decide +kernel, by decide +kernel⟩
abbrev s_open_lots : Stmt := topS 31
theorem sc_open_lots : FnScope ["answers", "bounds", "highest", "number"] ["answers"] (defScope s_open_lots) := ⟨rfl, rfl, rfl, by decide +kernel, rfl, by decide +kernel, by decide +kernel⟩
theorem gset_self {κ : Type} [DecidableEq κ] {f : κ → Dt} {k : κ} : gset f k (f k) = f := by
  funext j
  unfold gset
  by_cases h : j = k
  · rw [if_pos h, h]
  · rw [if_neg h]
/-- the i-th row of the table -/
structure Side (i : Nat) (n p q : Int) : Prop where
  e1 : (sidesD.map (·.1)).getD i 0 = n
  e2 : (sidesD.map (·.2)).getD i .non = .sqt [.int p, .int q]
  sn : isSix n
  sp : isSix p
  sq : isSix q
  pq : sdp n = (p, q)
  tk : ks6.take (i + 1) = ks6.take i ++ [.inl n]
  no : (.inl n : Key) ∉ ks6.take i
  tk2 : sd.take (i + 1) = sd.take i ++ [(n, p, q)]
  e3 : ([1, 2, 3, 4, 5, 6] : List Int).getD i 0 = n
theorem side_at {i : Nat} (h : i < 6) : ∃ n p q, Side i n p q := by
  have c : i = 0 ∨ i = 1 ∨ i = 2 ∨ i = 3 ∨ i = 4 ∨ i = 5 := by omega
  rcases c with rfl | rfl | rfl | rfl | rfl | rfl
  · exact ⟨1, 3, 5, rfl, rfl, ⟨by decide, by decide⟩, ⟨by decide, by decide⟩, ⟨by decide, by decide⟩, rfl, rfl, by simp [ks6], rfl, rfl⟩
  · exact ⟨2, 3, 6, rfl, rfl, ⟨by decide, by decide⟩, ⟨by decide, by decide⟩, ⟨by decide, by decide⟩, rfl, rfl, by simp [ks6], rfl, rfl⟩
  · exact ⟨3, 1, 2, rfl, rfl, ⟨by decide, by decide⟩, ⟨by decide, by decide⟩, ⟨by decide, by decide⟩, rfl, rfl, by simp [ks6], rfl, rfl⟩
  · exact ⟨4, 5, 6, rfl, rfl, ⟨by decide, by decide⟩, ⟨by decide, by decide⟩, ⟨by decide, by decide⟩, rfl, rfl, by simp [ks6], rfl, rfl⟩
  · exact ⟨5, 1, 4, rfl, rfl, ⟨by decide, by decide⟩, ⟨by decide, by decide⟩, ⟨by decide, by decide⟩, rfl, rfl, by simp [ks6], rfl, rfl⟩
  · exact ⟨6, 2, 4, rfl, rfl, ⟨by decide, by decide⟩, ⟨by decide, by decide⟩, ⟨by decide, by decide⟩, rfl, rfl, by simp [ks6], rfl, rfl⟩
theorem oi_flat (x : Option Int) : (oi x).flat = true := by cases x <;> rfl
theorem opd_noneIn {K : PySem.W.Frag} {x y : Option Int} : OpD K (rIn K false) .non (.lst [oi x, oi y]) (.bl (x.isNone || y.isNone)) := by
  have z := opd_in (K := K) (d := .non) (e := .lst [oi x, oi y]) (l := [oi x, oi y]) (neg := false) (.lst _) rfl (by rw [List.all_cons, List.all_cons, oi_flat, oi_flat]; rfl)
  have e : (if false then !inV Dt.non.v ([oi x, oi y].map Dt.v) else inV Dt.non.v ([oi x, oi y].map Dt.v)) = (x.isNone || y.isNone) := by
    cases x <;> cases y <;> rfl
  rw [e] at z
  exact z
section
variable {P : Program} {w : World} {K : PySem.W.Frag} {mg : Str → Option Value} {base : Heap} {f : Addr} {fd : FuncData}
theorem d_tops (B : Bi mg) (S : Sides K mg) (D_lesser : DefOk P w K mg base CX0 1 "lesser" ["one", "other"] (p_lesser K)) (F : TopD K mg "tops" s_tops ["bounds"] f fd) : DefOk P w K mg base CX0 2 "tops" ["bounds"] (p_tops K) := by
  obtain ⟨dS, kvs, es, ep, oS, hS, W, WV⟩ := S
  refine F.ok (F.fn.ok sc_tops (fun _ _ _ _ => Pu.len) (fun cdv A outer s H vs Q E hr h => ⟨_, (pss_cons (ps_set (i := 1) sc_tops.nd rfl (.inl rfl) pe_dnewK)
      (pss_cons (ps_for PassesOwn.never rfl (pi_wi W hS) (kTup (K := K) (n := 2) rfl rfl (pgs_cons (pg_name (i := 2) sc_tops.nd rfl (.inl rfl)) (pgs_cons (kTup (K := K) (n := 2) rfl rfl (pgs_cons (pg_name (i := 3) sc_tops.nd rfl (.inl rfl)) (pgs_cons (pg_name (i := 4) sc_tops.nd rfl (.inl rfl)) pgs_nil))) pgs_nil))) (pss_cons (ps_set (i := 5) sc_tops.nd rfl (.inl rfl) (pe_lst (pa_cons (pe_ix (kIx (K := K) rfl) (pe_dget (hu_of hr) (pv 0) (pv 3) (fun _ _ => rfl)) pe_int (fun _ _ => rfl)) (pa_cons (pe_ix (kIx (K := K) rfl) (pe_dget (hu_of hr) (pv 0) (pv 4) (fun _ _ => rfl)) pe_int (fun _ _ => rfl)) pa_nil))))
      (pss_one (ps_dput (hu_of hr) (pv 1) (pv 2) (pe_d D_lesser hr pass0 (pa_cons (pe_ix (kIx (K := K) rfl) (pe_dget (hu_of hr) (pv 0) (pv 2) (fun _ _ => rfl)) pe_int (fun _ _ => rfl)) (pa_cons (pe_ifExp (pt_cmpR (kIn (K := K) rfl) pe_non (pv 5) (by rfl)) pe_non (pe_b (kSumS (K := K) rfl rfl) B.sum (pa_cons (pv 5) pa_nil))) pa_nil))) rfl))))
      (pss_one (ps_ret (pv 1))))),
    pu_start h (by decide) fun r ds Ψ hl hR => ?_⟩))
  try dsimp only [cxOf, Cx.nox]
  obtain ⟨v, rfl⟩ := ds1 hl
  dsimp only [r1] at hR
  obtain ⟨b, rfl, hR⟩ := hR
  refine sv_seq (sv_asgDk (Nat.le_of_ble_eq_true rfl) ?_)
  refine sv_seq (sv_for (js := [2] ++ (([3] ++ ([4] ++ [])) ++ [])) (src_wi WV ?_))
  refine ⟨fun i Γ => ∃ x y z u, Γ = [.d (.dk (bD b)), .k (gd (ks6.take i) (tF (topsB b))), x, y, z, u], ⟨.any, .any, .any, .any, rfl⟩, ?_, ?_⟩
  · rintro i Γ hi ⟨x, y, z, u, rfl⟩
    obtain ⟨n, p, q, T⟩ := side_at hi
    dsimp only
    rw [T.e1, T.e2]
    repeat trivial
    refine sv_asg (EvN.ev (en_lst ?_))
    repeat trivial
    refine ev_dget ?_
    repeat trivial
    refine ⟨_, _, _, rfl, rfl, bD_look T.sp, ?_⟩
    repeat trivial
    refine ⟨_, opd_ix (n := 1) (.tup _) rfl, ?_⟩
    repeat trivial
    refine ev_dget ?_
    repeat trivial
    refine ⟨_, _, _, rfl, rfl, bD_look T.sq, ?_⟩
    repeat trivial
    refine ⟨_, opd_ix (n := 1) (.tup _) rfl, ?_⟩
    repeat trivial
    refine sv_dput ?_
    repeat trivial
    refine ev_dget ?_
    repeat trivial
    refine ⟨_, _, _, rfl, rfl, bD_look T.sn, ?_⟩
    repeat trivial
    refine ⟨_, opd_ix (n := 1) (.tup _) rfl, ?_⟩
    repeat trivial
    refine ⟨_, opd_noneIn, ?_⟩
    repeat trivial
    have eT : topsB b n = lessO (b n).2 (sumO (b p).2 (b q).2) := by
      unfold topsB
      rw [T.pq]
    have fin : ∀ u : Dt, ∃ x y z w, ([Arg.d (.dk (bD b)), .k (gd (ks6.take i) (tF (topsB b))), .d (.int n), .d (.int p), .d (.int q), .d u].set 1 (.k (putD (gd (ks6.take i) (tF (topsB b))) (.inl n) (oi (lessO (b n).2 (sumO (b p).2 (b q).2)))))) = [.d (.dk (bD b)), .k (gd (ks6.take (i + 1)) (tF (topsB b))), x, y, z, w] := fun u => by
      refine ⟨.d (.int n), .d (.int p), .d (.int q), .d u, ?_⟩
      rw [gd_new T.no, T.tk, ← eT]
      have e : gset (tF (topsB b)) (.inl n) (oi (topsB b n)) = tF (topsB b) := gset_self
      rw [e]
      rfl
    have hlen : (gd (ks6.take i) (tF (topsB b))).length < 100000 := by
      rw [gd_len, List.length_take]
      have : ks6.length = 6 := rfl
      omega
    cases hc : ((b p).2.isNone || (b q).2.isNone) with
    | true =>
      have es : sumO (b p).2 (b q).2 = none := by
        cases h1 : (b p).2 with
        | none => rfl
        | some x =>
          cases h2 : (b q).2 with
          | none => rfl
          | some y =>
            rw [h1, h2] at hc
            cases hc
      repeat trivial
      refine ⟨(b n).2, sumO (b p).2 (b q).2, rfl, by rw [es]; rfl, ?_⟩
      repeat trivial
      exact ⟨_, _, rfl, rfl, hlen, fin _⟩
    | false =>
      have es : ∃ x y, (b p).2 = some x ∧ (b q).2 = some y := by
        cases h1 : (b p).2 with
        | none =>
          rw [h1] at hc
          cases hc
        | some x =>
          cases h2 : (b q).2 with
          | none =>
            rw [h1, h2] at hc
            cases hc
          | some y => exact ⟨x, y, rfl, rfl⟩
      obtain ⟨x, y, hx, hy⟩ := es
      repeat trivial
      refine ⟨_, cbd_sumS (ns := [x, y]) (by rw [hx, hy]; exact .lst _), ?_⟩
      repeat trivial
      refine ⟨(b n).2, sumO (b p).2 (b q).2, rfl, by rw [hx, hy]; simp [sumO, oi], ?_⟩
      repeat trivial
      exact ⟨_, _, rfl, rfl, hlen, fin _⟩
  · rintro Γ ⟨x, y, z, u, rfl⟩
    refine sv_ret (ev_frzK rfl ?_)
    exact hR
theorem d_fits (B : Bi mg) (S : Sides K mg) (D_tops : DefOk P w K mg base CX0 2 "tops" ["bounds"] (p_tops K)) (F : TopD K mg "fits" s_fits ["bounds"] f fd) : DefOk P w K mg base CX0 3 "fits" ["bounds"] (p_fits K) := by
  obtain ⟨dS, kvs, es, ep, oS, hS, W, WV⟩ := S
  refine F.ok (F.fn.ok sc_fits (fun _ _ _ _ => Pu.len) (fun cdv A outer s H vs Q E hr h => ⟨_, (pss_cons (ps_set (i := 1) sc_fits.nd rfl (.inr rfl) (pe_d D_tops hr pass0 (pa_cons (pv 0) pa_nil)))
      (pss_one (ps_ret (pe_b (kAll (K := K) rfl rfl) B.all (pa_cons (pe_lc (own := [("number", 2)]) (g := (gName 2)) (tt := tYes) rfl sc_fits.nd (pi_wk W hS) (blkOk_by (own := [("number", 2)]) (N := ["bounds", "highest", "number"]) (sc := defScope s_fits) (by decide +kernel)) (fun _ _ _ _ _ => (pg_name (i := 2) sc_fits.nd rfl (.inl rfl))) (fun _ _ _ _ _ => pts_nil) (fun _ _ _ _ _ => (pe_or (pe_cmpR op_isN (pe_dget (hu_of hr) (pv 1) (pv 2) (fun _ _ => rfl)) pe_non (nomark _)) (pe_one (pe_cmpR op_le (pe_ix (kIx (K := K) rfl) (pe_dget (hu_of hr) (pv 0) (pv 2) (fun _ _ => rfl)) pe_int (fun _ _ => rfl)) (pe_dget (hu_of hr) (pv 1) (pv 2) (fun _ _ => rfl)) (nomark _)))))) pa_nil))))),
    pu_start h (by decide) fun r ds Ψ hl hR => ?_⟩))
  try dsimp only [cxOf, Cx.nox]
  obtain ⟨v, rfl⟩ := ds1 hl
  dsimp only [r1] at hR
  obtain ⟨b, rfl, hR⟩ := hR
  have hk : kvs.map (·.1) = [1, 2, 3, 4, 5, 6] := WV.keys
  have hn : kvs.length = 6 := WV.1
  repeat trivial
  refine EvN.ev (en_lcF (js := [2]) (fun _ h => h) (src_wk ?_))
  rw [hk, hn]
  refine ⟨by decide, rfl, fun i => some (.bl ((fun i : Nat => fitsN b (([1, 2, 3, 4, 5, 6] : List Int).getD i 0)) i)), fun i hi => ?_, ?_⟩
  · obtain ⟨n, p, q, T⟩ := side_at hi
    dsimp only
    rw [T.e3]
    repeat trivial
    refine ev_dget ?_
    repeat trivial
    refine ⟨_, _, _, rfl, rfl, tD_look T.sn, ?_⟩
    repeat trivial
    cases ht : topsB b n with
    | none =>
      repeat trivial
      have e : fitsN b n = true := by
        unfold fitsN
        rw [ht]
      rw [e]
    | some x =>
      repeat trivial
      refine ev_dget ?_
      repeat trivial
      refine ⟨_, _, _, rfl, rfl, bD_look T.sn, ?_⟩
      repeat trivial
      refine ⟨_, opd_ix (n := 0) (.tup _) rfl, ?_⟩
      repeat trivial
      refine ev_dget ?_
      repeat trivial
      refine ⟨_, _, _, rfl, rfl, tD_look T.sn, ?_⟩
      rw [ht]
      refine ⟨_, opd_B0, rfl, ?_⟩
      have e : fitsN b n = decide ((b n).1 ≤ x) := by
        unfold fitsN
        rw [ht]
      rw [e]
  · repeat trivial
    have e : (List.range 6).filterMap (fun i => some (Dt.bl ((fun i : Nat => fitsN b (([1, 2, 3, 4, 5, 6] : List Int).getD i 0)) i))) = ([1, 2, 3, 4, 5, 6].map (fitsN b)).map Dt.bl := by
      rw [range_bl]
      rfl
    rw [e]
    refine ⟨_, cbd_all, ?_⟩
    rw [all_map_id]
    exact hR
theorem d_lowest (B : Bi mg) (S : Sides K mg) (F : TopD K mg "lowest" s_lowest ["bounds", "number"] f fd) : DefOk P w K mg base CX0 1 "lowest" ["bounds", "number"] (p_lowest K) := by
  obtain ⟨dS, kvs, es, ep, oS, hS, W, WV⟩ := S
  refine F.ok (F.fn.ok sc_lowest (fun _ _ _ _ => Pu.len) (fun cdv A outer s H vs Q E hr h => ⟨_, (pss_cons (ps_set (i := 2) sc_lowest.nd rfl (.inl rfl) (pe_lst (pa_cons (pe_ix (kIx (K := K) rfl) (pe_dget (hu_of hr) (pv 0) (pv 1) (fun _ _ => rfl)) pe_int (fun _ _ => rfl)) pa_nil)))
      (pss_cons (ps_for PassesOwn.never rfl (pi_wi W hS) (kTup (K := K) (n := 2) rfl rfl (pgs_cons (pg_name (i := 3) sc_lowest.nd rfl (.inl rfl)) (pgs_cons (pg_name (i := 4) sc_lowest.nd rfl (.inl rfl)) pgs_nil))) (pss_cons (ps_set (i := 5) sc_lowest.nd rfl (.inl rfl) (pe_ifExp (pt_cmpR (kIn (K := K) rfl) (pv 1) (pv 4) (by rfl)) (pe_ix (kIx (K := K) rfl) (pe_dget (hu_of hr) (pv 0) (pe_op op_sub (pe_b (kSumS (K := K) rfl rfl) B.sum (pa_cons (pv 4) pa_nil)) (pv 1)) (fun _ _ => rfl)) pe_int (fun _ _ => rfl)) pe_non))
      (pss_one (ps_if (pt_cmpR op_notN (pv 5) pe_non (nomark _)) (pss_one (ps_expr (pe_bm PySem.F.plainAttrs_list PySem.F.slot_list_append PySem.F.type_list_append mt_append (pv 2) (pa_cons (pe_op op_sub (pe_ix (kIx (K := K) rfl) (pe_dget (hu_of hr) (pv 0) (pv 3) (fun _ _ => rfl)) pe_int (fun _ _ => rfl)) (pv 5)) pa_nil)))) pss_nil))))
      (pss_one (ps_ret (pe_b (kMax (K := K) rfl rfl) B.max (pa_cons (pv 2) pa_nil)))))),
    pu_start h (by decide) fun r ds Ψ hl hR => ?_⟩))
  try dsimp only [cxOf, Cx.nox]
  obtain ⟨v, c, rfl⟩ := ds2 hl
  dsimp only [r2] at hR
  obtain ⟨b, m, rfl, rfl, hm, hR⟩ := hR
  refine sv_seq (sv_asgN (en_lst ?_))
  repeat trivial
  refine ev_dget ?_
  repeat trivial
  refine ⟨_, _, _, rfl, rfl, bD_look hm, ?_⟩
  repeat trivial
  refine ⟨_, opd_ix (n := 0) (.tup _) rfl, ?_⟩
  repeat trivial
  refine sv_for (js := [3] ++ ([4] ++ [])) (src_wi WV ?_)
  refine ⟨fun i Γ => ∃ x y z, Γ = [.d (.dk (bD b)), .d (.int m), .l (((b m).1 :: (sd.take i).filterMap (lowS b m)).map .int), x, y, z], ⟨.any, .any, .any, rfl⟩, ?_, ?_⟩
  · rintro i Γ hi ⟨x, y, z, rfl⟩
    obtain ⟨n, p, q, T⟩ := side_at hi
    dsimp only
    rw [T.e1, T.e2]
    have e2 : (sd.take (i + 1)).filterMap (lowS b m) = (sd.take i).filterMap (lowS b m) ++ (lowS b m (n, p, q)).toList := by
      rw [T.tk2, List.filterMap_append]
      cases h : lowS b m (n, p, q) with
      | none => rw [List.filterMap_cons_none h]; rfl
      | some z => rw [List.filterMap_cons_some h]; rfl
    have hlen : (((b m).1 :: (sd.take i).filterMap (lowS b m)).map Dt.int).length < 100000 := by
      have z1 := List.length_filterMap_le (lowS b m) (sd.take i)
      have z2 : (sd.take i).length ≤ 6 := by
        rw [List.length_take]
        exact Nat.min_le_right _ _
      rw [List.length_map, List.length_cons]
      omega
    repeat trivial
    refine ⟨_, opd_inI (ns := [p, q]) (.sqt _), ?_⟩
    repeat trivial
    cases hin : decide (m ∈ [p, q]) with
    | false =>
      have hne : ¬ (m = p ∨ m = q) := fun z => by
        have := of_decide_eq_false hin
        exact this (by simpa using z)
      have e3 : lowS b m (n, p, q) = none := if_neg hne
      repeat trivial
      refine ⟨.d (.int n), .d (.sqt [.int p, .int q]), .d .non, ?_⟩
      rw [e2, e3, Option.toList_none, List.append_nil]
      rfl
    | true =>
      have hpq : m = p ∨ m = q := by
        have := of_decide_eq_true hin
        simpa using this
      have hk : isSix (p + q - m) := by
        rcases hpq with e | e
        · rw [e, show p + q - p = q by omega]
          exact T.sq
        · rw [e, show p + q - q = p by omega]
          exact T.sp
      have es : [p, q].sum = p + q := by simp
      repeat trivial
      refine ev_dget ?_
      repeat trivial
      refine ⟨_, cbd_sumS (ns := [p, q]) (.sqt _), ?_⟩
      repeat trivial
      refine ⟨_, _, _, rfl, rfl, (by rw [es]; exact bD_look hk), ?_⟩
      repeat trivial
      refine ⟨_, opd_ix (n := 1) (.tup _) rfl, ?_⟩
      repeat trivial
      cases hb : (b (p + q - m)).2 with
      | none =>
        have e3 : lowS b m (n, p, q) = none := by
          unfold lowS
          rw [if_pos hpq, hb]
          rfl
        repeat trivial
        refine ⟨.d (.int n), .d (.sqt [.int p, .int q]), .d .non, ?_⟩
        rw [e2, e3, Option.toList_none, List.append_nil]
        rfl
      | some h =>
        have e3 : lowS b m (n, p, q) = some ((b n).1 - h) := by
          unfold lowS
          rw [if_pos hpq, hb]
          rfl
        repeat trivial
        refine sv_app rfl ?_
        repeat trivial
        refine ev_dget ?_
        repeat trivial
        refine ⟨_, _, _, rfl, rfl, bD_look T.sn, ?_⟩
        repeat trivial
        refine ⟨_, opd_ix (n := 0) (.tup _) rfl, ?_⟩
        repeat trivial
        refine ⟨hlen, .d (.int n), .d (.sqt [.int p, .int q]), .d (.int h), ?_⟩
        rw [e2, e3, Option.toList_some, ← List.cons_append, List.map_append]
        rfl
  · rintro Γ ⟨x, y, z, rfl⟩
    have hx := foldl_max (sd.filterMap (lowS b m)) (b m).1
    refine sv_ret (ev_cbL rfl (d := .int (lowestB b m)) rfl (cbd_max hx.1 hx.2) ?_)
    exact hR
def goodA (a : Dt) : Bool := isAnsW a && fitsB (bnds (a.items.map anOf))
abbrev bdA (a : Dt) : Bd := bnds (a.items.map anOf)
abbrev p_known (K : PySem.W.Frag) (CA : Addr) : Sp := PuV K 1 (v1 fun x a Ψ Ξ => small3 a ∧ (goodA a = true → Ψ (.dk (bD (bdA a)))) ∧ (goodA a = false → Ξ CA x))
abbrev p_possible (K : PySem.W.Frag) (CA : Addr) : Sp := PuV K 1 (v1 fun x a Ψ Ξ => small3 a ∧ (isAnsW a = true → Ψ (.bl (fitsB (bdA a)))) ∧ (isAnsW a = false → Ξ CA x))
abbrev p_between (K : PySem.W.Frag) (CA CL : Addr) : Sp := PuV K 2 (v2 fun x y a l Ψ Ξ => small3 a ∧ small1 l ∧ (goodA a = true → isAsk l = true → Ψ (.tup [.int (lowestB (bdA a) (lotN (l.items.map Dt.toI))), oi (topsB (bdA a) (lotN (l.items.map Dt.toI)))])) ∧ (goodA a = true → isAsk l = false → Ξ CL y) ∧ (goodA a = false → Ξ CA x))
def openL (b : Bd) : List (List Int) := (([1, 2, 3, 4, 5, 6].filter fun n => !decide (some (lowestB b n) = topsB b n)).map fun n => lotOf n 3).mergeSort (leQ true)
abbrev p_open_lots (K : PySem.W.Frag) (CA : Addr) : Sp := PuVN K 1 (v1 fun x a Ψ Ξ => small3 a ∧ (goodA a = true → Ψ ((openL (bdA a)).map (dtQ true))) ∧ (goodA a = false → Ξ CA x))
theorem d_known {CA : Addr} (B : Bi mg) (E_InvalidAnswers : ErrOk P w K mg base "InvalidAnswers" CA) (D_check_answers : DefOk P w K mg base (L2.CX P w) 8 "check_answers" ["answers"] (p_check_answers K CA)) (D_bounds_of : DefOk P w K mg base CX0 2 "bounds_of" ["answers"] (p_bounds_of K)) (D_fits : DefOk P w K mg base CX0 3 "fits" ["bounds"] (p_fits K))
    (F : TopD K mg "known" s_known ["answers"] f fd) : DefOk P w K mg base (L2.CX P w) 9 "known" ["answers"] (p_known K CA) := by
  refine F.ok (F.fn.okX sc_known (fun _ _ _ _ => PuV.len) (fun cdv A outer s H vs Q E hr h => ⟨_, (pss_cons (ps_expr (pe_dS D_check_answers hr (fun σ => passAt (takes_of rfl rfl rfl rfl) σ) (pa_cons (pv 0) pa_nil)))
      (pss_cons (ps_set (i := 1) sc_known.nd rfl (.inl rfl) (pe_d D_bounds_of hr pass0 (pa_cons (pv 0) pa_nil)))
      (pss_cons (ps_if (pt_not (pt_val (pe_d D_fits hr pass0 (pa_cons (pv 1) pa_nil)))) (pss_one (ps_raiseE E_InvalidAnswers hr (takes_of rfl rfl rfl rfl) (pv 0))) pss_nil)
      (pss_one (ps_ret (pv 1)))))),
    pv_start h (by decide) fun r ds Ψ Ξ hl hR hD hW => ?_⟩))
  try dsimp only [cxOf, Cx.nox]
  obtain ⟨v, rfl⟩ := ds1 hl
  obtain ⟨xv, rfl, hxv⟩ := da1 hD
  dsimp only [v1] at hR
  obtain ⟨hs, hR1, hR2⟩ := hR
  repeat trivial
  refine ev_callV1 (hW _) hxv rfl ⟨hs, fun ha => ?_, fun ha => hR2 (by unfold goodA; rw [ha, Bool.false_and])⟩
  repeat trivial
  cases hf : fitsB (bdA v) with
  | true =>
    have hR := hR1 (by unfold goodA; rw [ha, hf]; rfl)
    repeat trivial
  | false =>
    have hR := hR2 (by unfold goodA; rw [ha, hf]; rfl)
    exact ite_t rfl (sv_raiseV E_InvalidAnswers (hW _) rfl hR)
theorem fn_possible {CA : Addr} (B : Bi mg) (D_check_answers : DefOk P w K mg base (L2.CX P w) 8 "check_answers" ["answers"] (p_check_answers K CA)) (D_bounds_of : DefOk P w K mg base CX0 2 "bounds_of" ["answers"] (p_bounds_of K)) (D_fits : DefOk P w K mg base CX0 3 "fits" ["bounds"] (p_fits K))
    (F : TopD K mg "possible" s_possible ["answers"] f fd) : FnOk P w K mg base (L2.CX P w) 9 f fd ["answers"] (p_possible K CA) := by
  refine (F.fn.okX sc_possible (fun _ _ _ _ => PuV.len) (fun cdv A outer s H vs Q E hr h => ⟨_, (pss_cons (ps_expr (pe_dS D_check_answers hr (fun σ => passAt (takes_of rfl rfl rfl rfl) σ) (pa_cons (pv 0) pa_nil)))
      (pss_one (ps_ret (pe_d D_fits hr pass0 (pa_cons (pe_d D_bounds_of hr pass0 (pa_cons (pv 0) pa_nil)) pa_nil))))),
    pv_start h (by decide) fun r ds Ψ Ξ hl hR hD hW => ?_⟩))
  try dsimp only [cxOf, Cx.nox]
  obtain ⟨v, rfl⟩ := ds1 hl
  obtain ⟨xv, rfl, hxv⟩ := da1 hD
  dsimp only [v1] at hR
  obtain ⟨hs, hR1, hR2⟩ := hR
  repeat trivial
  refine ev_callV1 (hW _) hxv rfl ⟨hs, fun ha => ?_, fun ha => hR2 ha⟩
  have hR := hR1 ha
  repeat trivial
theorem d_possible {CA : Addr} (B : Bi mg) (D_check_answers : DefOk P w K mg base (L2.CX P w) 8 "check_answers" ["answers"] (p_check_answers K CA)) (D_bounds_of : DefOk P w K mg base CX0 2 "bounds_of" ["answers"] (p_bounds_of K)) (D_fits : DefOk P w K mg base CX0 3 "fits" ["bounds"] (p_fits K))
    (F : TopD K mg "possible" s_possible ["answers"] f fd) : DefOk P w K mg base (L2.CX P w) 9 "possible" ["answers"] (p_possible K CA) := F.ok (fn_possible B D_check_answers D_bounds_of D_fits F)
theorem fn_between {CA CL : Addr} (B : Bi mg) (D_known : DefOk P w K mg base (L2.CX P w) 9 "known" ["answers"] (p_known K CA)) (D_check_asked_lot : DefOk P w K mg base (L2.CX P w) 6 "check_asked_lot" ["lot"] (p_check_asked_lot K CL)) (D_lot_number : DefOk P w K mg base CX0 1 "lot_number" ["lot"] (p_lot_number K))
    (D_lowest : DefOk P w K mg base CX0 1 "lowest" ["bounds", "number"] (p_lowest K)) (D_tops : DefOk P w K mg base CX0 2 "tops" ["bounds"] (p_tops K)) (F : TopD K mg "between" s_between ["answers", "lot"] f fd) : FnOk P w K mg base (L2.CX P w) 10 f fd ["answers", "lot"] (p_between K CA CL) := by
  refine (F.fn.okX sc_between (fun _ _ _ _ => PuV.len) (fun cdv A outer s H vs Q E hr h => ⟨_, (pss_cons (ps_set (i := 2) sc_between.nd rfl (.inl rfl) (pe_dS D_known hr (fun σ => passAt (takes_of rfl rfl rfl rfl) σ) (pa_cons (pv 0) pa_nil)))
      (pss_cons (ps_expr (pe_dS D_check_asked_lot hr (fun σ => passAt (takes_of rfl rfl rfl rfl) σ) (pa_cons (pv 1) pa_nil)))
      (pss_cons (ps_set (i := 3) sc_between.nd rfl (.inl rfl) (pe_d D_lot_number hr pass0 (pa_cons (pv 1) pa_nil)))
      (pss_one (ps_ret (pe_tup (pa_cons (pe_d D_lowest hr pass0 (pa_cons (pv 2) (pa_cons (pv 3) pa_nil))) (pa_cons (pe_dget (hu_of hr) (pe_d D_tops hr pass0 (pa_cons (pv 2) pa_nil)) (pv 3) (fun _ _ => rfl)) pa_nil)))))))),
    pv_start h (by decide) fun r ds Ψ Ξ hl hR hD hW => ?_⟩))
  try dsimp only [cxOf, Cx.nox]
  obtain ⟨v, t, rfl⟩ := ds2 hl
  obtain ⟨xv, yt, rfl, hxv, hyt⟩ := da2 hD
  dsimp only [v2] at hR
  obtain ⟨hs, ht, hR1, hR2, hR3⟩ := hR
  repeat trivial
  refine ev_callV1 (hW _) hxv rfl ⟨hs, fun ha => ?_, fun ha => hR3 ha⟩
  repeat trivial
  refine ev_callV1 (hW _) hyt rfl ⟨ht, fun hk => ?_, fun hk => hR2 ha hk⟩
  have hR := hR1 ha hk
  obtain ⟨ns, k1, k2, k3, k4, k5, k6, k7⟩ := isAsk_ints hk
  have hsix := lotNo_six hk
  rw [k2] at hsix hR
  have hin : ∀ n ∈ ns, 0 ≤ n ∧ n ≤ 1000 := fun n hn => by
    have z := k3 n hn
    omega
  have hle : ns.length ≤ 1000 := by omega
  repeat trivial
  refine ⟨ns, k1, hle, hin, ?_⟩
  repeat trivial
  refine ⟨bdA v, lotN ns, rfl, rfl, hsix, ?_⟩
  repeat trivial
  refine ev_dget ?_
  repeat trivial
  refine ⟨_, _, _, rfl, rfl, tD_look hsix, ?_⟩
  repeat trivial
theorem d_between {CA CL : Addr} (B : Bi mg) (D_known : DefOk P w K mg base (L2.CX P w) 9 "known" ["answers"] (p_known K CA)) (D_check_asked_lot : DefOk P w K mg base (L2.CX P w) 6 "check_asked_lot" ["lot"] (p_check_asked_lot K CL)) (D_lot_number : DefOk P w K mg base CX0 1 "lot_number" ["lot"] (p_lot_number K))
    (D_lowest : DefOk P w K mg base CX0 1 "lowest" ["bounds", "number"] (p_lowest K)) (D_tops : DefOk P w K mg base CX0 2 "tops" ["bounds"] (p_tops K)) (F : TopD K mg "between" s_between ["answers", "lot"] f fd) : DefOk P w K mg base (L2.CX P w) 10 "between" ["answers", "lot"] (p_between K CA CL) := F.ok (fn_between B D_known D_check_asked_lot D_lot_number D_lowest D_tops F)
theorem fn_open_lots {CA : Addr} (B : Bi mg) (S : Sides K mg) {tP : Tok} (hPosts : mg "POSTS" = some (.int 3 tP)) (D_known : DefOk P w K mg base (L2.CX P w) 9 "known" ["answers"] (p_known K CA)) (D_tops : DefOk P w K mg base CX0 2 "tops" ["bounds"] (p_tops K)) (D_lot_of : DefOk P w K mg base CX0 1 "lot_of" ["number", "many"] (p_lot_of K))
    (D_lowest : DefOk P w K mg base CX0 1 "lowest" ["bounds", "number"] (p_lowest K)) (F : TopD K mg "open_lots" s_open_lots ["answers"] f fd) : FnOk P w K mg base (L2.CX P w) 10 f fd ["answers"] (p_open_lots K CA) := by
  obtain ⟨dS, kvs, es, ep, oS, hS, W, WV⟩ := S
  refine (F.fn.okX sc_open_lots (fun _ _ _ _ => PuVN.len) (fun cdv A outer s H vs Q E hr h => ⟨_, (pss_cons (ps_set (i := 1) sc_open_lots.nd rfl (.inr rfl) (pe_dS D_known hr (fun σ => passAt (takes_of rfl rfl rfl rfl) σ) (pa_cons (pv 0) pa_nil)))
      (pss_cons (ps_set (i := 2) sc_open_lots.nd rfl (.inr rfl) (pe_d D_tops hr pass0 (pa_cons (pv 1) pa_nil)))
      (pss_one (ps_ret (pe_b (kSortQ (K := K) true rfl hr) B.sorted (pa_cons (pe_lc (own := [("number", 3)]) (g := (gName 3)) (tt := _) rfl sc_open_lots.nd (pi_wk W hS) (blkOk_by (own := [("number", 3)]) (N := ["answers", "bounds", "highest", "number"]) (sc := defScope s_open_lots) (by decide +kernel)) (fun _ _ _ _ _ => (pg_name (i := 3) sc_open_lots.nd rfl (.inl rfl))) (fun _ _ _ _ _ => (pts_one (pt_cmpR op_ne (pe_d D_lowest hr pass0 (pa_cons (pv 1) (pa_cons (pv 3) pa_nil))) (pe_dget (hu_of hr) (pv 2) (pv 3) (fun _ _ => rfl)) (nomark _)))) (fun _ _ _ _ _ => (pe_d D_lot_of hr pass0 (pa_cons (pv 3) (pa_cons (pe_glob (v := .int 3) (by rfl) hPosts ⟨_, rfl⟩) pa_nil))))) pa_nil)))))),
    pvn_start h (by decide) fun r ds Ψ Ξ hl hR hD hW => ?_⟩))
  try dsimp only [cxOf, Cx.nox]
  obtain ⟨v, rfl⟩ := ds1 hl
  obtain ⟨xv, rfl, hxv⟩ := da1 hD
  dsimp only [v1] at hR
  obtain ⟨hs, hR1, hR2⟩ := hR
  have hk : kvs.map (·.1) = [1, 2, 3, 4, 5, 6] := WV.keys
  have hn : kvs.length = 6 := WV.1
  refine svN_seq ?_
  repeat trivial
  refine ev_callV1 (hW _) hxv rfl ⟨hs, fun ha => ?_, fun ha => hR2 ha⟩
  have hR := hR1 ha
  repeat trivial
  refine svN_seq ?_
  repeat trivial
  refine svN_ret (en_cb ?_)
  repeat trivial
  refine EvN.ev (en_lcF (js := [3]) (fun _ h => h) (src_wk ?_))
  rw [hk, hn]
  refine ⟨by decide, rfl, fun i => (fun n : Int => if (!decide (some (lowestB (bdA v) n) = topsB (bdA v) n)) = true then some (Dt.lst ((lotOf n 3).map .int)) else none) (([1, 2, 3, 4, 5, 6] : List Int).getD i 0), fun i hi => ?_, ?_⟩
  · obtain ⟨n, p, q, T⟩ := side_at hi
    dsimp only
    rw [T.e3]
    have e : decide (some (lowestB (bdA v) n) = topsB (bdA v) n) = decide (topsB (bdA v) n = some (lowestB (bdA v) n)) := by
      by_cases h : some (lowestB (bdA v) n) = topsB (bdA v) n
      · rw [decide_eq_true h, decide_eq_true h.symm]
      · rw [decide_eq_false h, decide_eq_false fun z => h z.symm]
    repeat trivial
    refine ⟨bdA v, n, rfl, rfl, T.sn, ?_⟩
    repeat trivial
    refine ev_dget ?_
    repeat trivial
    refine ⟨_, _, _, rfl, rfl, tD_look T.sn, ?_⟩
    repeat trivial
    refine ⟨_, opd_neO (i := some (lowestB (bdA v) n)) (j := topsB (bdA v) n), ?_⟩
    repeat trivial
    cases hd : (!decide (some (lowestB (bdA v) n) = topsB (bdA v) n)) with
    | true =>
      repeat trivial
      exact ⟨n, 3, rfl, rfl, by decide, rfl, if_pos rfl⟩
    | false => exact ite_f rfl ⟨rfl, if_neg Bool.false_ne_true⟩
  · repeat trivial
    have e : (List.range 6).filterMap (fun i => (fun n : Int => if (!decide (some (lowestB (bdA v) n) = topsB (bdA v) n)) = true then some (Dt.lst ((lotOf n 3).map .int)) else none) (([1, 2, 3, 4, 5, 6] : List Int).getD i 0)) = (([1, 2, 3, 4, 5, 6].filter fun n => !decide (some (lowestB (bdA v) n) = topsB (bdA v) n)).map fun n => lotOf n 3).map (dtQ true) := by
      have e1 : (List.range 6).map (fun i => ([1, 2, 3, 4, 5, 6] : List Int).getD i 0) = [1, 2, 3, 4, 5, 6] := rfl
      have e2 : ∀ l : List Int, l.filterMap (fun n : Int => if (!decide (some (lowestB (bdA v) n) = topsB (bdA v) n)) = true then some (Dt.lst ((lotOf n 3).map .int)) else none) = ((l.filter fun n => !decide (some (lowestB (bdA v) n) = topsB (bdA v) n)).map fun n => lotOf n 3).map (dtQ true) := fun l => by
        induction l with
        | nil => rfl
        | cons x xs ih =>
          rw [List.filterMap_cons, List.filter_cons]
          by_cases h : (!decide (some (lowestB (bdA v) x) = topsB (bdA v) x)) = true
          · rw [if_pos h, if_pos h, List.map_cons, List.map_cons, ih]
            rfl
          · rw [if_neg h, if_neg h, ih]
      rw [← e2, ← e1, List.filterMap_map]
      rfl
    rw [e]
    refine ⟨_, cbn_sortQ rfl (fun z => nomatch z) ?_, hR⟩
    rw [List.length_map]
    exact Nat.le_trans (List.length_filter_le _ _) (by decide)
theorem d_open_lots {CA : Addr} (B : Bi mg) (S : Sides K mg) {tP : Tok} (hPosts : mg "POSTS" = some (.int 3 tP)) (D_known : DefOk P w K mg base (L2.CX P w) 9 "known" ["answers"] (p_known K CA)) (D_tops : DefOk P w K mg base CX0 2 "tops" ["bounds"] (p_tops K)) (D_lot_of : DefOk P w K mg base CX0 1 "lot_of" ["number", "many"] (p_lot_of K))
    (D_lowest : DefOk P w K mg base CX0 1 "lowest" ["bounds", "number"] (p_lowest K)) (F : TopD K mg "open_lots" s_open_lots ["answers"] f fd) : DefOk P w K mg base (L2.CX P w) 10 "open_lots" ["answers"] (p_open_lots K CA) := F.ok (fn_open_lots B S hPosts D_known D_tops D_lot_of D_lowest F)
end
end Cp
/-! K81f: the law's drawing -/
namespace Cp
open PySem PySem.Spec PyProof.Rows L2
local macro_rules | `(tactic| trivial) => `(tactic| with_reducible refine ea_nil ?_)
local macro_rules | `(tactic| trivial) => `(tactic| with_reducible refine ea_cons ?_)
local macro_rules | `(tactic| trivial) => `(tactic| with_reducible refine et_test ?_)
local macro_rules | `(tactic| trivial) => `(tactic| with_reducible refine et_yes ?_)
local macro_rules | `(tactic| trivial) => `(tactic| with_reducible refine et_B ?_)
local macro_rules | `(tactic| trivial) => `(tactic| with_reducible refine ev_lenS ?_)
local macro_rules | `(tactic| trivial) => `(tactic| with_reducible refine et_and ?_)
local macro_rules | `(tactic| trivial) => `(tactic| with_reducible refine et_or ?_)
local macro_rules | `(tactic| trivial) => `(tactic| with_reducible refine et_not ?_)
local macro_rules | `(tactic| trivial) => `(tactic| with_reducible refine ev_if ?_)
local macro_rules | `(tactic| trivial) => `(tactic| with_reducible refine ev_chain ?_)
local macro_rules | `(tactic| trivial) => `(tactic| with_reducible refine ev_and ?_)
local macro_rules | `(tactic| trivial) => `(tactic| with_reducible refine ev_or ?_)
local macro_rules | `(tactic| trivial) => `(tactic| with_reducible refine ev_not ?_)
local macro_rules | `(tactic| trivial) => `(tactic| with_reducible refine ev_op ?_)
local macro_rules | `(tactic| trivial) => `(tactic| with_reducible refine ev_cb ?_)
local macro_rules | `(tactic| trivial) => `(tactic| with_reducible refine ev_isi kit_int ?_)
local macro_rules | `(tactic| trivial) => `(tactic| with_reducible refine ev_isi kit_bool ?_)
local macro_rules | `(tactic| trivial) => `(tactic| with_reducible refine ev_isi kit_str ?_)
local macro_rules | `(tactic| trivial) => `(tactic| with_reducible refine ev_isi kit_list ?_)
local macro_rules | `(tactic| trivial) => `(tactic| with_reducible refine ev_isi kit_tuple ?_)
local macro_rules | `(tactic| trivial) => `(tactic| with_reducible refine ev_isi2 kit_list kit_tuple ?_)
local macro_rules | `(tactic| trivial) => `(tactic| with_reducible refine ev_call ?_)
local macro_rules | `(tactic| trivial) => `(tactic| with_reducible refine ev_tup ?_)
local macro_rules | `(tactic| trivial) => `(tactic| with_reducible refine ev_i ?_)
local macro_rules | `(tactic| trivial) => `(tactic| with_reducible refine ev_b ?_)
local macro_rules | `(tactic| trivial) => `(tactic| with_reducible refine ev_n ?_)
local macro_rules | `(tactic| trivial) => `(tactic| with_reducible refine ev_s ?_)
local macro_rules | `(tactic| trivial) => `(tactic| ((with_reducible apply ev_var); · exact rfl))
local macro_rules | `(tactic| trivial) => `(tactic| ((with_reducible apply ev_varV); (· exact rfl); (· assumption)))
local macro_rules | `(tactic| trivial) => `(tactic| with_reducible refine sv_ret ?_)
local macro_rules | `(tactic| trivial) => `(tactic| with_reducible refine sv_if ?_)
local macro_rules | `(tactic| trivial) => `(tactic| (with_reducible refine sv_nx ?_))
local macro_rules | `(tactic| trivial) => `(tactic| ((with_reducible apply le_and); · exact rfl))
local macro_rules | `(tactic| trivial) => `(tactic| ((with_reducible apply lt_and); · exact rfl))
local macro_rules | `(tactic| trivial) => `(tactic| ((with_reducible apply ex_and); · exact rfl))
local macro_rules | `(tactic| trivial) => `(tactic| (((with_reducible apply eq_and); · exact rfl); try dsimp only [r0, r1, r2, r3, r4, x1, x2]))
local macro_rules | `(tactic| trivial) => `(tactic| with_reducible refine ⟨_, opd_I0, ?_⟩)
local macro_rules | `(tactic| trivial) => `(tactic| with_reducible refine ⟨_, opd_B0, ?_⟩)
local macro_rules | `(tactic| trivial) => `(tactic| with_reducible refine ⟨_, opd_isN, ?_⟩)
local macro_rules | `(tactic| trivial) => `(tactic| with_reducible refine ⟨_, opd_notN, ?_⟩)
local macro_rules | `(tactic| trivial) => `(tactic| with_reducible refine ⟨_, opd_isB, ?_⟩)
local macro_rules | `(tactic| trivial) => `(tactic| with_reducible refine ⟨_, opd_eqI, ?_⟩)
local macro_rules | `(tactic| trivial) => `(tactic| with_reducible refine ⟨_, opd_neI, ?_⟩)
local macro_rules | `(tactic| trivial) => `(tactic| ((with_reducible apply ite_t); · exact rfl))
local macro_rules | `(tactic| trivial) => `(tactic| ((with_reducible apply ite_f); · exact rfl))
local macro_rules | `(tactic| trivial) => `(tactic| with_reducible refine sv_seq ?_)
local macro_rules | `(tactic| trivial) => `(tactic| with_reducible refine tgl_nil ?_)
local macro_rules | `(tactic| trivial) => `(tactic| with_reducible apply tgl_cons)
local macro_rules | `(tactic| trivial) => `(tactic| ((with_reducible apply tg_tup); · exact rfl))
local macro_rules | `(tactic| trivial) => `(tactic| ((with_reducible apply tg_sqt); · exact rfl))
local macro_rules | `(tactic| trivial) => `(tactic| ((with_reducible refine tg_name ?_ ?_); · exact Nat.le_of_ble_eq_true rfl))
local macro_rules | `(tactic| trivial) => `(tactic| with_reducible refine sv_drop (te := tCallS _ _ _) ?_)
local macro_rules | `(tactic| trivial) => `(tactic| with_reducible refine sv_asg (te := tOp _ _ _) ?_)
local macro_rules | `(tactic| trivial) => `(tactic| with_reducible refine sv_asg (te := tCall _ _ _ _) ?_)
local macro_rules | `(tactic| trivial) => `(tactic| with_reducible refine sv_asg (te := tCallS _ _ _) ?_)
local macro_rules | `(tactic| trivial) => `(tactic| with_reducible refine sv_asg (te := tIf _ _ _) ?_)
local macro_rules | `(tactic| trivial) => `(tactic| with_reducible refine sv_asg (te := tVar _) ?_)
local macro_rules | `(tactic| trivial) => `(tactic| with_reducible refine sv_asg (te := tC _) ?_)
local macro_rules | `(tactic| trivial) => `(tactic| with_reducible refine sv_asg (te := tTup _) ?_)
local macro_rules | `(tactic| trivial) => `(tactic| with_reducible refine sv_asg (te := tAndV _ _) ?_)
local macro_rules | `(tactic| trivial) => `(tactic| with_reducible refine sv_asg (te := tOrV _ _) ?_)
local macro_rules | `(tactic| trivial) => `(tactic| with_reducible refine sv_asg (te := tNotV _) ?_)
local macro_rules | `(tactic| trivial) => `(tactic| with_reducible refine sv_asg (te := tDGet _ _) ?_)
local macro_rules | `(tactic| trivial) => `(tactic| with_reducible refine sv_asg (te := tUn _ _) ?_)
local macro_rules | `(tactic| trivial) => `(tactic| with_reducible apply sv_asgTp)
local macro_rules | `(tactic| trivial) => `(tactic| ((with_reducible apply ev_box0); · exact rfl))
local macro_rules | `(tactic| trivial) => `(tactic| ((with_reducible apply ev_box1); · exact rfl))
local macro_rules | `(tactic| trivial) => `(tactic| ((with_reducible apply ev_box2); · exact rfl))
local macro_rules | `(tactic| trivial) => `(tactic| ((with_reducible apply ev_box3); · exact rfl))
local macro_rules | `(tactic| trivial) => `(tactic| with_reducible apply sv_asgLp)
local macro_rules | `(tactic| trivial) => `(tactic| ((with_reducible apply tg_lst); · exact rfl))
abbrev s__law_cell : Stmt := topS 33
theorem sc__law_cell : FnScope ["script", "k"] ["script", "k"] (defScope s__law_cell) := ⟨rfl, rfl, rfl, by decide +kernel, rfl, by decide +kernel, by decide +kernel⟩
abbrev s__law_box : Stmt := topS 34
theorem sc__law_box : FnScope ["great"] ["great"] (defScope s__law_box) := ⟨rfl, rfl, rfl, by decide +kernel, rfl, by decide +kernel, by decide +kernel⟩
abbrev s__law_take : Stmt := topS 35
theorem sc__law_take : FnScope ["box", "many", "digit", "mixed"] ["box", "many"] (defScope s__law_take) := ⟨rfl, rfl, rfl, by decide +kernel, rfl, by decide +kernel, by decide +kernel⟩
abbrev s__law_mixed : Stmt := topS 36
theorem sc__law_mixed : FnScope ["box", "items", "left", "found"] ["box", "items"] (defScope s__law_mixed) := ⟨rfl, rfl, rfl, by decide +kernel, rfl, by decide +kernel, by decide +kernel⟩
section
variable {P : Program} {w : World} {K : PySem.W.Frag} {mg : Str → Option Value} {base : Heap} {f : Addr} {fd : FuncData}
abbrev p_cell (K : PySem.W.Frag) : Sp := Pu K 2 (r2 fun a b Ψ => ∃ (ns : List Int) (k : Nat), a = .sq (ns.map .int) ∧ b = .int (k : Int) ∧ ns.length ≤ 63 ∧ k ≤ 3 ∧ ∀ g : Int, Ψ (.int g))
abbrev p_box (K : PySem.W.Frag) : Sp := PuN K 1 (r1 fun a Ψ => ∃ g : Int, a = .int g ∧ ∀ (x : Int) (b : Bool) (m : Int), 0 ≤ x → 0 ≤ m → m < 2147483629 → Ψ [.int x, .bl b, .int m, .int 0])
abbrev p_take (K : PySem.W.Frag) : Sp := PuB K 1 (fun _ => 1) (r1 fun a Ψ => ∃ many : Int, a = .int many ∧ 0 < many ∧ many ≤ 1000000 ∧ ∀ t : Int, 0 ≤ t → t < many → Ψ (.int t))
theorem d__law_cell (B : Bi mg) (F : TopD K mg "_law_cell" s__law_cell ["script", "k"] f fd) : DefOk P w K mg base CX0 1 "_law_cell" ["script", "k"] (p_cell K) := by
  refine F.ok (F.fn.ok sc__law_cell (fun _ _ _ _ => Pu.len) (fun cdv A outer s H vs Q E hr h => ⟨_, (pss_one (ps_ret (pe_ifExp (pt_cmpR op_lt (pv 1) (pe_b (kLen (K := K) rfl) B.len (pa_cons (pv 0) pa_nil)) (nomark _)) (pe_ix (kIx (K := K) rfl) (pv 0) (pv 1) (fun _ _ => rfl)) (pe_op op_add (pe_op op_mul pe_int (pv 1)) (pe_op op_mod (pe_t call_int1 B.int (pa_cons (pe_b (kSumS (K := K) rfl rfl) B.sum (pa_cons (pe_slice (kSl (K := K) rfl) (pv 0) po_none (po_some pe_int)) pa_nil)) pa_nil)) pe_int))))),
    pu_start h (by decide) fun r ds Ψ hl hR => ?_⟩))
  try dsimp only [cxOf, Cx.nox]
  obtain ⟨a, b, rfl⟩ := ds2 hl
  dsimp only [r2] at hR
  obtain ⟨ns, k, rfl, rfl, hn, hk, hR⟩ := hR
  repeat trivial
  refine ⟨_, cbd_len (.sq _), ?_⟩
  repeat trivial
  cases hc : decide ((k : Int) < ((ns.map Dt.int).length : Int)) with
  | true =>
    have h := of_decide_eq_true hc
    rw [List.length_map] at h
    repeat trivial
    refine ⟨_, opd_ix (.sq _) (by rw [atI_ok (by rw [List.length_map]; omega), getD_map (by omega)]), ?_⟩
    exact hR _
  | false =>
    repeat trivial
    refine ⟨_, opd_I (.inl ⟨by decide, by decide⟩), ?_⟩
    repeat trivial
    refine EvN.ev (en_sl ?_)
    repeat trivial
    refine eo_no ?_
    refine eo_at ?_
    repeat trivial
    refine ⟨_, .inr rfl, ?_⟩
    repeat trivial
    have e : cutD (ns.map Dt.int) none (some 1) = (ns.take 1).map Dt.int := by
      cases ns with
      | nil => rfl
      | cons x r =>
        have e1 : HT.sIx (r.length + 1) (r.length + 1) (some 1) = min 1 (r.length + 1) := HT.sIx_nat _ _ 1
        have e2 : min 1 (r.length + 1) = 1 := by omega
        simp [cutD, e1, e2, HT.sIx_none]
    rw [e]
    refine ⟨_, cbd_sumS (.lst _), ?_⟩
    repeat trivial
    refine ⟨_, cbd_int, ?_⟩
    repeat trivial
    refine ⟨_, opd_I (show (0 : Int) < 1000003 by decide), ?_⟩
    repeat trivial
    exact hR _
theorem d__law_box (B : Bi mg) (F : TopD K mg "_law_box" s__law_box ["great"] f fd) : DefOk P w K mg base CX0 1 "_law_box" ["great"] (p_box K) := by
  refine F.ok (F.fn.ok sc__law_box (fun _ _ _ _ => PuN.len) (fun cdv A outer s H vs Q E hr h => ⟨_, (pss_one (ps_ret (pe_lst (pa_cons (pe_b call_abs B.abs (pa_cons (pv 0) pa_nil)) (pa_cons (pe_cmpR op_ge (pe_b call_abs B.abs (pa_cons (pv 0) pa_nil)) (pe_op op_pow pe_int pe_int) (nomark _)) (pa_cons (pe_op op_mod (pe_t call_int1 B.int (pa_cons (pe_b call_abs B.abs (pa_cons (pv 0) pa_nil)) pa_nil)) pe_int) (pa_cons pe_int pa_nil))))))),
    pn_start h (by decide) fun r ds Ψ hl hR => ?_⟩))
  try dsimp only [cxOf, Cx.nox]
  obtain ⟨a, rfl⟩ := ds1 hl
  dsimp only [r1] at hR
  obtain ⟨g, rfl, hR⟩ := hR
  have h0 : 0 ≤ (if g < 0 then -g else g) := by split <;> omega
  refine svN_ret (en_lst ?_)
  repeat trivial
  refine ⟨_, cbd_abs, ?_⟩
  repeat trivial
  refine ⟨_, cbd_abs, ?_⟩
  repeat trivial
  refine ⟨_, opd_I ⟨by decide, by decide, by decide⟩, ?_⟩
  repeat trivial
  refine ⟨_, cbd_abs, ?_⟩
  repeat trivial
  refine ⟨_, cbd_int, ?_⟩
  repeat trivial
  refine ⟨_, opd_I (show (0 : Int) < 2147483629 by decide), ?_⟩
  repeat trivial
  exact hR _ _ _ h0 (Int.emod_nonneg _ (by decide)) (Int.emod_lt_of_pos _ (by decide))
theorem d__law_take (B : Bi mg) (F : TopD K mg "_law_take" s__law_take ["box", "many"] f fd) : DefOk P w K mg base CX0 1 "_law_take" ["box", "many"] (p_take K) := by
  refine F.ok (F.fn.ok sc__law_take (fun _ _ _ _ => PuB.len) (fun cdv A outer s H vs Q E hr h => ⟨_, (pss_cons (ps_if (PW.pt (pw_and (pt_val (pe_ix (kIx (K := K) rfl) (pv 0) pe_int (fun _ _ => rfl))) (pw_and1 (pt_cmpR op_gt (pe_ix (kIx (K := K) rfl) (pv 0) pe_int (fun _ _ => rfl)) pe_int (nomark _))))) (pss_cons (ps_set (i := 2) sc__law_take.nd rfl (.inl rfl) (pe_op op_mod (pe_t call_int1 B.int (pa_cons (pe_ix (kIx (K := K) rfl) (pv 0) pe_int (fun _ _ => rfl)) pa_nil)) (pv 1)))
      (pss_cons (ps_asg (pe_op op_fdiv (pe_ix (kIx (K := K) rfl) (pv 0) pe_int (fun _ _ => rfl)) (pv 1)) (pg_sub (pv 0) pe_int set_list))
      (pss_one (ps_ret (pv 2))))) pss_nil)
      (pss_cons (ps_asg (pe_op op_add (pe_ix (kIx (K := K) rfl) (pv 0) pe_int (fun _ _ => rfl)) pe_int) (pg_sub (pv 0) pe_int set_list))
      (pss_cons (ps_set (i := 3) sc__law_take.nd rfl (.inl rfl) (pe_op op_mod (pe_t call_int1 B.int (pa_cons (pe_op op_pow (pe_op op_add (pe_op op_add (pe_ix (kIx (K := K) rfl) (pv 0) pe_int (fun _ _ => rfl)) (pe_op op_mul pe_int (pe_ix (kIx (K := K) rfl) (pv 0) pe_int (fun _ _ => rfl)))) pe_int) pe_int) pa_nil)) pe_int))
      (pss_one (ps_ret (pe_op op_mod (pe_t call_int1 B.int (pa_cons (pe_op op_fdiv (pe_op op_mod (pe_t call_int1 B.int (pa_cons (pe_op op_pow (pe_op op_add (pe_op op_mul (pv 3) pe_int) (pe_op op_mul pe_int (pe_ix (kIx (K := K) rfl) (pv 0) pe_int (fun _ _ => rfl)))) pe_int) pa_nil)) pe_int) pe_int) pa_nil)) (pv 1))))))),
    pb_start h (by decide) fun r a ds Ψ m hl hR => ?_⟩))
  try dsimp only [cxOf, Cx.nox]
  obtain ⟨c, rfl⟩ := ds1 hl
  dsimp only [r1] at hR
  obtain ⟨many, rfl, h1, h2, hR⟩ := hR
  refine sv_seq ?_
  refine sv_ifA (et_and (et_B (ev_box1 rfl fun b1 => ⟨b1, rfl, ?_⟩))) ?_ ?_
  · cases b1 with
    | false => exact ite_f rfl rfl
    | true =>
      repeat trivial
      intro g hg
      repeat trivial
  · refine sv_seq (sv_asg ?_)
    repeat trivial
    intro g hg
    repeat trivial
    refine ⟨_, cbd_int, ?_⟩
    repeat trivial
    refine ⟨_, opd_I h1, ?_⟩
    repeat trivial
    refine sv_box0 (a := a) (n := m + 1) ?_
    repeat trivial
    intro g2 hg2
    repeat trivial
    refine ⟨_, opd_I ⟨h1, by omega⟩, ?_⟩
    refine ⟨g2 / many, rfl, Int.ediv_nonneg hg2 (Int.le_of_lt h1), rfl, ?_⟩
    refine sv_ret (ev_var rfl ?_)
    exact ⟨⟨m + 1, Nat.le_succ _, rfl⟩, hR _ (Int.emod_nonneg _ (by omega)) (Int.emod_lt_of_pos _ h1)⟩
  · repeat trivial
    refine sv_box3 (a := a) (n := m + 1) (m' := m) ?_
    repeat trivial
    intro c hc hn
    repeat trivial
    refine ⟨by omega, by omega, rfl, ?_⟩
    repeat trivial
    intro x hx hx2
    repeat trivial
    intro c2 hc2 hn2
    repeat trivial
    refine ⟨_, opd_I (.inl ⟨by decide, by decide⟩), ?_⟩
    repeat trivial
    refine ⟨_, opd_I ⟨by decide, by decide, by omega⟩, ?_⟩
    repeat trivial
    refine ⟨_, cbd_int, ?_⟩
    repeat trivial
    refine ⟨_, opd_I (show (0 : Int) < 2147483647 by decide), ?_⟩
    repeat trivial
    refine ⟨_, opd_I (.inr ⟨by decide, by decide⟩), ?_⟩
    repeat trivial
    intro c3 hc3 hn3
    have hmx : ∀ z : Int, 0 ≤ z % 2147483647 ∧ z % 2147483647 < 2147483647 := fun z => ⟨Int.emod_nonneg _ (by decide), Int.emod_lt_of_pos _ (by decide)⟩
    have hz := hmx ((x + 15485867 * c2 + 179425033) ^ (5 : Int).toNat)
    repeat trivial
    refine ⟨_, opd_I (.inl ⟨by decide, by decide⟩), ?_⟩
    repeat trivial
    refine ⟨_, opd_I ⟨by decide, by decide, by omega⟩, ?_⟩
    repeat trivial
    refine ⟨_, cbd_int, ?_⟩
    repeat trivial
    refine ⟨_, opd_I (show (0 : Int) < 2147483587 by decide), ?_⟩
    repeat trivial
    refine ⟨_, opd_I ⟨by decide, by decide⟩, ?_⟩
    repeat trivial
    refine ⟨_, cbd_int, ?_⟩
    repeat trivial
    refine ⟨_, opd_I h1, ?_⟩
    exact ⟨⟨m, Nat.le_refl _, rfl⟩, hR _ (Int.emod_nonneg _ (by omega)) (Int.emod_lt_of_pos _ h1)⟩
abbrev p_mixed (K : PySem.W.Frag) : Sp := PuB K 1 (fun ds => (ds.getD 0 .non).items.length) (r1 fun a Ψ => ∃ l, SeqD a l ∧ l.length ≤ 1000 ∧ l.all (Dt.lay 3) = true ∧ ∀ es, es.Perm l → Ψ (.lst es))
theorem eraseIdx_perm {α : Type} : ∀ {l : List α} {j : Nat} {y : α}, l[j]? = some y → (y :: l.eraseIdx j).Perm l
  | [], _, _, h => by cases h
  | x :: l, 0, y, h => by
    cases h
    exact List.Perm.refl _
  | x :: l, j + 1, y, h => by
    have ih := eraseIdx_perm (l := l) (j := j) (y := y) h
    exact (List.Perm.swap x y _).trans (ih.cons x)
theorem d__law_mixed (B : Bi mg) (D__law_take : DefOk P w K mg base CX0 1 "_law_take" ["box", "many"] (p_take K)) (F : TopD K mg "_law_mixed" s__law_mixed ["box", "items"] f fd) : DefOk P w K mg base CX0 2 "_law_mixed" ["box", "items"] (p_mixed K) := by
  refine F.ok (F.fn.ok sc__law_mixed (fun _ _ _ _ => PuB.len) (fun cdv A outer s H vs Q E hr h => ⟨_, (pss_cons (ps_par (i := 2) (j := 3) (by rfl) sc__law_mixed.nd rfl rfl (by decide) rfl rfl (pa_cons (pe_t (kList (K := K) rfl) B.list (pa_cons (pv 1) pa_nil)) (pa_cons (pe_lst pa_nil) pa_nil)) (by rfl))
      (pss_cons (ps_while PassesOwn.never (pt_cmpR (kNeD (K := K) rfl hr) (pv 2) (pe_lst pa_nil) (nomark _)) (pss_one (ps_expr (pe_bm PySem.F.plainAttrs_list PySem.F.slot_list_append PySem.F.type_list_append mt_append (pv 3) (pa_cons (pe_bm PySem.F.plainAttrs_list PySem.F.slot_list_pop PySem.F.type_list_pop mt_popAt (pv 2) (pa_cons (pe_d D__law_take hr pass0 (pa_cons (pv 0) (pa_cons (pe_b (kLen (K := K) rfl) B.len (pa_cons (pv 2) pa_nil)) pa_nil))) pa_nil)) pa_nil)))))
      (pss_one (ps_ret (pv 3))))),
    pb_start h (by decide) fun r a ds Ψ m hl hR => ?_⟩))
  try dsimp only [cxOf, Cx.nox]
  obtain ⟨v, rfl⟩ := ds1 hl
  dsimp only [r1] at hR
  obtain ⟨l, q, hlen, hlay, hR⟩ := hR
  refine sv_seq (sv_parL (en_cb ?_))
  repeat trivial
  refine ⟨_, cbn_list q, Nat.le_of_ble_eq_true rfl, Nat.le_of_ble_eq_true rfl, by decide, ?_⟩
  refine sv_seq (sv_while (fun n Γ => ∃ left found, Γ = [.box a (m + n), .d v, .l left, .l found] ∧ n = left.length ∧ (left ++ found).Perm l) l.length ?_ ?_)
  · refine ⟨l, [], ?_, rfl, by rw [List.append_nil]⟩
    have e : v.items.length = l.length := by rw [q.items.1]
    rw [← e]
    rfl
  · rintro n Γ ⟨left, found, rfl, rfl, hp⟩
    have hall : ∀ d ∈ left, d.lay 3 = true := fun d hd => List.all_eq_true.mp hlay d (hp.mem_iff.mp (List.mem_append_left _ hd))
    have hsum : left.length + found.length = l.length := by
      rw [← List.length_append]
      exact hp.length_eq
    refine et_test (ev_opL rfl (EvN.ev (en_lst ?_)))
    repeat trivial
    refine ⟨.bl _, rfl, opd_neL 4 (by show left.all (Dt.lay 3) = true; exact List.all_eq_true.mpr hall) rfl, _, rfl, ?_⟩
    rw [eqv_nil]
    cases left with
    | nil =>
      refine ite_f rfl ?_
      refine sv_ret (ev_frz rfl ?_)
      exact ⟨⟨m, Nat.le_refl _, rfl⟩, hR found hp⟩
    | cons x left =>
      refine ite_t rfl ?_
      refine sv_app rfl (ev_popAt rfl ?_)
      refine ev_callB (i := 0) rfl (ea_cons ?_)
      refine ev_cbL rfl rfl (cbd_len (.lst _)) ?_
      repeat trivial
      refine ⟨by rw [List.length_cons]; omega, by rw [List.length_cons] at hsum ⊢; omega, fun t h0 h1 => ?_⟩
      obtain ⟨j, rfl⟩ : ∃ j : Nat, t = (j : Int) := ⟨t.toNat, by omega⟩
      have hj : j < (x :: left).length := by omega
      refine ⟨x :: left, j, (x :: left)[j], rfl, rfl, List.getElem?_eq_getElem hj, by omega, found, rfl, by rw [List.length_cons] at hsum; omega, ?_⟩
      refine ⟨((x :: left).eraseIdx j).length, ?_, (x :: left).eraseIdx j, found ++ [(x :: left)[j]], ?_, rfl, ?_⟩
      · rw [List.length_eraseIdx_of_lt hj]
        omega
      · rw [List.length_eraseIdx_of_lt hj]
        rfl
      · have z := eraseIdx_perm (List.getElem?_eq_getElem hj)
        refine List.Perm.trans ?_ hp
        rw [← List.append_assoc]
        refine (List.perm_append_comm).trans ?_
        rw [← List.append_assoc]
        exact List.Perm.append_right _ z
end
end Cp
/-! K81g: the law's parts and their tables -/
namespace Cp
open PySem PySem.Spec PyProof.Rows L2
local macro_rules | `(tactic| trivial) => `(tactic| with_reducible refine ea_nil ?_)
local macro_rules | `(tactic| trivial) => `(tactic| with_reducible refine ea_cons ?_)
local macro_rules | `(tactic| trivial) => `(tactic| with_reducible refine et_test ?_)
local macro_rules | `(tactic| trivial) => `(tactic| with_reducible refine et_yes ?_)
local macro_rules | `(tactic| trivial) => `(tactic| with_reducible refine et_B ?_)
local macro_rules | `(tactic| trivial) => `(tactic| with_reducible refine ev_lenS ?_)
local macro_rules | `(tactic| trivial) => `(tactic| with_reducible refine et_and ?_)
local macro_rules | `(tactic| trivial) => `(tactic| with_reducible refine et_or ?_)
local macro_rules | `(tactic| trivial) => `(tactic| with_reducible refine et_not ?_)
local macro_rules | `(tactic| trivial) => `(tactic| with_reducible refine ev_if ?_)
local macro_rules | `(tactic| trivial) => `(tactic| with_reducible refine ev_chain ?_)
local macro_rules | `(tactic| trivial) => `(tactic| with_reducible refine ev_and ?_)
local macro_rules | `(tactic| trivial) => `(tactic| with_reducible refine ev_or ?_)
local macro_rules | `(tactic| trivial) => `(tactic| with_reducible refine ev_not ?_)
local macro_rules | `(tactic| trivial) => `(tactic| with_reducible refine ev_op ?_)
local macro_rules | `(tactic| trivial) => `(tactic| with_reducible refine ev_cb ?_)
local macro_rules | `(tactic| trivial) => `(tactic| with_reducible refine ev_isi kit_int ?_)
local macro_rules | `(tactic| trivial) => `(tactic| with_reducible refine ev_isi kit_bool ?_)
local macro_rules | `(tactic| trivial) => `(tactic| with_reducible refine ev_isi kit_str ?_)
local macro_rules | `(tactic| trivial) => `(tactic| with_reducible refine ev_isi kit_list ?_)
local macro_rules | `(tactic| trivial) => `(tactic| with_reducible refine ev_isi kit_tuple ?_)
local macro_rules | `(tactic| trivial) => `(tactic| with_reducible refine ev_isi2 kit_list kit_tuple ?_)
local macro_rules | `(tactic| trivial) => `(tactic| with_reducible refine ev_call ?_)
local macro_rules | `(tactic| trivial) => `(tactic| with_reducible refine ev_tup ?_)
local macro_rules | `(tactic| trivial) => `(tactic| with_reducible refine ev_i ?_)
local macro_rules | `(tactic| trivial) => `(tactic| with_reducible refine ev_b ?_)
local macro_rules | `(tactic| trivial) => `(tactic| with_reducible refine ev_n ?_)
local macro_rules | `(tactic| trivial) => `(tactic| with_reducible refine ev_s ?_)
local macro_rules | `(tactic| trivial) => `(tactic| ((with_reducible apply ev_var); · exact rfl))
local macro_rules | `(tactic| trivial) => `(tactic| ((with_reducible apply ev_varV); (· exact rfl); (· assumption)))
local macro_rules | `(tactic| trivial) => `(tactic| with_reducible refine sv_ret ?_)
local macro_rules | `(tactic| trivial) => `(tactic| with_reducible refine sv_if ?_)
local macro_rules | `(tactic| trivial) => `(tactic| (with_reducible refine sv_nx ?_))
local macro_rules | `(tactic| trivial) => `(tactic| ((with_reducible apply le_and); · exact rfl))
local macro_rules | `(tactic| trivial) => `(tactic| ((with_reducible apply lt_and); · exact rfl))
local macro_rules | `(tactic| trivial) => `(tactic| ((with_reducible apply ex_and); · exact rfl))
local macro_rules | `(tactic| trivial) => `(tactic| (((with_reducible apply eq_and); · exact rfl); try dsimp only [r0, r1, r2, r3, r4, x1, x2]))
local macro_rules | `(tactic| trivial) => `(tactic| with_reducible refine ⟨_, opd_I0, ?_⟩)
local macro_rules | `(tactic| trivial) => `(tactic| with_reducible refine ⟨_, opd_B0, ?_⟩)
local macro_rules | `(tactic| trivial) => `(tactic| with_reducible refine ⟨_, opd_isN, ?_⟩)
local macro_rules | `(tactic| trivial) => `(tactic| with_reducible refine ⟨_, opd_notN, ?_⟩)
local macro_rules | `(tactic| trivial) => `(tactic| with_reducible refine ⟨_, opd_isB, ?_⟩)
local macro_rules | `(tactic| trivial) => `(tactic| with_reducible refine ⟨_, opd_eqI, ?_⟩)
local macro_rules | `(tactic| trivial) => `(tactic| with_reducible refine ⟨_, opd_neI, ?_⟩)
local macro_rules | `(tactic| trivial) => `(tactic| ((with_reducible apply ite_t); · exact rfl))
local macro_rules | `(tactic| trivial) => `(tactic| ((with_reducible apply ite_f); · exact rfl))
local macro_rules | `(tactic| trivial) => `(tactic| with_reducible refine sv_seq ?_)
local macro_rules | `(tactic| trivial) => `(tactic| with_reducible refine tgl_nil ?_)
local macro_rules | `(tactic| trivial) => `(tactic| with_reducible apply tgl_cons)
local macro_rules | `(tactic| trivial) => `(tactic| ((with_reducible apply tg_tup); · exact rfl))
local macro_rules | `(tactic| trivial) => `(tactic| ((with_reducible apply tg_sqt); · exact rfl))
local macro_rules | `(tactic| trivial) => `(tactic| ((with_reducible refine tg_name ?_ ?_); · exact Nat.le_of_ble_eq_true rfl))
local macro_rules | `(tactic| trivial) => `(tactic| with_reducible refine sv_drop (te := tCallS _ _ _) ?_)
local macro_rules | `(tactic| trivial) => `(tactic| with_reducible refine sv_asg (te := tOp _ _ _) ?_)
local macro_rules | `(tactic| trivial) => `(tactic| with_reducible refine sv_asg (te := tCall _ _ _ _) ?_)
local macro_rules | `(tactic| trivial) => `(tactic| with_reducible refine sv_asg (te := tCallS _ _ _) ?_)
local macro_rules | `(tactic| trivial) => `(tactic| with_reducible refine sv_asg (te := tIf _ _ _) ?_)
local macro_rules | `(tactic| trivial) => `(tactic| with_reducible refine sv_asg (te := tVar _) ?_)
local macro_rules | `(tactic| trivial) => `(tactic| with_reducible refine sv_asg (te := tC _) ?_)
local macro_rules | `(tactic| trivial) => `(tactic| with_reducible refine sv_asg (te := tTup _) ?_)
local macro_rules | `(tactic| trivial) => `(tactic| with_reducible refine sv_asg (te := tAndV _ _) ?_)
local macro_rules | `(tactic| trivial) => `(tactic| with_reducible refine sv_asg (te := tOrV _ _) ?_)
local macro_rules | `(tactic| trivial) => `(tactic| with_reducible refine sv_asg (te := tNotV _) ?_)
local macro_rules | `(tactic| trivial) => `(tactic| with_reducible refine sv_asg (te := tDGet _ _) ?_)
local macro_rules | `(tactic| trivial) => `(tactic| with_reducible refine sv_asg (te := tUn _ _) ?_)
local macro_rules | `(tactic| trivial) => `(tactic| with_reducible apply sv_asgTp)
local macro_rules | `(tactic| trivial) => `(tactic| ((with_reducible apply ev_box0); · exact rfl))
local macro_rules | `(tactic| trivial) => `(tactic| ((with_reducible apply ev_box1); · exact rfl))
local macro_rules | `(tactic| trivial) => `(tactic| ((with_reducible apply ev_box2); · exact rfl))
local macro_rules | `(tactic| trivial) => `(tactic| ((with_reducible apply ev_box3); · exact rfl))
local macro_rules | `(tactic| trivial) => `(tactic| with_reducible apply sv_asgLp)
local macro_rules | `(tactic| trivial) => `(tactic| ((with_reducible apply tg_lst); · exact rfl))
abbrev s__law_cut : Stmt := topS 38
theorem sc__law_cut : FnScope ["net", "lot", "tie"] ["net", "lot"] (defScope s__law_cut) := ⟨rfl, rfl, rfl, by decide +kernel, rfl, by decide +kernel, by decide +kernel⟩
abbrev s__law_least_cut : Stmt := topS 39
theorem sc__law_least_cut : FnScope ["part", "lot", "net", "posts", "inner", "place", "here", "least", "k", "code", "places", "some"] ["part", "lot"] (defScope s__law_least_cut) := ⟨rfl, rfl, rfl, by decide +kernel, rfl, by decide +kernel, by decide +kernel⟩
/-- a tie: two places, its room, its price -/
def tieOk (t : List Int) : Prop := ∃ a b r p : Int, t = [a, b, r, p] ∧ 0 ≤ r ∧ r ≤ 4
def tiesD (ts : List (List Int)) : Dt := .tup (ts.map (dtQ false))
theorem sum_le (ts : List (List Int)) (h : ∀ t ∈ ts, tieOk t) : ∀ xs : List Int, xs.length ≤ ts.length → (∀ x ∈ xs, 0 ≤ x ∧ x ≤ 4) → 0 ≤ xs.sum ∧ xs.sum ≤ 4 * (ts.length : Int) := by
  intro xs hl hx
  have z : 0 ≤ xs.sum ∧ xs.sum ≤ 4 * (xs.length : Int) := by
    clear hl
    induction xs with
    | nil => exact ⟨Int.le_refl _, Int.le_refl _⟩
    | cons x xs ih =>
      obtain ⟨h1, h2⟩ := ih fun y hy => hx y (List.mem_cons_of_mem _ hy)
      obtain ⟨h3, h4⟩ := hx x List.mem_cons_self
      rw [List.sum_cons, List.length_cons]
      omega
  omega
section
variable {P : Program} {w : World} {K : PySem.W.Frag} {mg : Str → Option Value} {base : Heap} {f : Addr} {fd : FuncData}
abbrev p_cut (K : PySem.W.Frag) : Sp := Pu K 2 (r2 fun a b Ψ => ∃ (many : Int) (ts : List (List Int)) (ns : List Int), a = .tup [.int many, tiesD ts] ∧ SeqD b (ns.map .int) ∧ ts.length ≤ 7 ∧ (∀ t ∈ ts, tieOk t) ∧ ∀ x : Int, 0 ≤ x → x ≤ 28 → Ψ (.int x))
theorem d__law_cut (B : Bi mg) (F : TopD K mg "_law_cut" s__law_cut ["net", "lot"] f fd) : DefOk P w K mg base CX0 1 "_law_cut" ["net", "lot"] (p_cut K) := by
  refine F.ok (F.fn.ok sc__law_cut (fun _ _ _ _ => Pu.len) (fun cdv A outer s H vs Q E hr h => ⟨_, (pss_one (ps_ret (pe_b (kSumS (K := K) rfl rfl) B.sum (pa_cons (pe_lc (own := [("tie", 2)]) (g := (gName 2)) (tt := _) rfl sc__law_cut.nd (kSeq (K := K) rfl (pe_ix (kIx (K := K) rfl) (pv 0) pe_int (fun _ _ => rfl))) (blkOk_by (own := [("tie", 2)]) (N := ["net", "lot", "tie"]) (sc := defScope s__law_cut) (by decide +kernel)) (fun _ _ _ _ _ => (pg_name (i := 2) sc__law_cut.nd rfl (.inl rfl))) (fun _ _ _ _ _ => (pts_one (PW.pt (pw_and (pt_cmpR (kIn (K := K) rfl) (pe_ix (kIx (K := K) rfl) (pv 2) pe_int (fun _ _ => rfl)) (pv 1) (by rfl)) (pw_and1 (pt_cmpR (kNin (K := K) rfl) (pe_ix (kIx (K := K) rfl) (pv 2) pe_int (fun _ _ => rfl)) (pv 1) (by rfl))))))) (fun _ _ _ _ _ => (pe_ix (kIx (K := K) rfl) (pv 2) pe_int (fun _ _ => rfl)))) pa_nil)))),
    pu_start h (by decide) fun r ds Ψ hl hR => ?_⟩))
  try dsimp only [cxOf, Cx.nox]
  obtain ⟨a, b, rfl⟩ := ds2 hl
  dsimp only [r2] at hR
  obtain ⟨many, ts, ns, rfl, q, hl7, hts, hR⟩ := hR
  repeat trivial
  refine EvN.ev (en_lc (js := [2]) (fun _ h => h) (src_seq ?_))
  repeat trivial
  refine ⟨_, opd_ix (n := 1) (.tup _) rfl, ts.map (dtQ false), .tup _, by rw [List.length_map]; omega, rfl, fun i acc => ∃ xs : List Int, acc = xs.map .int ∧ xs.length ≤ i ∧ ∀ x ∈ xs, 0 ≤ x ∧ x ≤ 4, ⟨[], rfl, Nat.le_refl _, fun x hx => nomatch hx⟩, ?_, ?_⟩
  · rintro i acc hi ⟨xs, rfl, h1, h2⟩
    have hi' : i < ts.length := by rw [List.length_map] at hi; exact hi
    obtain ⟨t1, t2, t3, t4, e, r1, r2⟩ := hts ts[i] (List.getElem_mem hi')
    have ei : itemOf (ts.map (dtQ false)) i = .tup [.int t1, .int t2, .int t3, .int t4] := by
      unfold itemOf
      rw [List.getD_eq_getElem?_getD, List.getElem?_map, List.getElem?_eq_getElem hi', e]
      rfl
    rw [ei]
    refine tg_name (Nat.le_of_ble_eq_true rfl) (et_any ?_ fun c => ?_)
    · repeat trivial
      refine ⟨_, opd_ix (n := 0) (.tup _) rfl, ?_⟩
      repeat trivial
      refine ⟨_, opd_inI q, ?_⟩
      repeat trivial
      cases decide (t1 ∈ ns) with
      | false => repeat trivial
      | true =>
        repeat trivial
        refine ⟨_, opd_ix (n := 1) (.tup _) rfl, ?_⟩
        repeat trivial
        refine ⟨_, opd_ninI q, ?_⟩
        repeat trivial
    · cases c with
      | true =>
        repeat trivial
        refine ⟨_, opd_ix (n := 2) (.tup _) rfl, rfl, xs ++ [t3], by rw [List.map_append]; rfl, by rw [List.length_append]; exact Nat.succ_le_succ h1, fun x hx => ?_⟩
        rcases List.mem_append.mp hx with z | z
        · exact h2 x z
        · rw [List.mem_singleton.mp z]
          exact ⟨r1, r2⟩
      | false => exact ite_f rfl ⟨rfl, xs, rfl, Nat.le_succ_of_le h1, h2⟩
  · rintro acc ⟨xs, rfl, h1, h2⟩
    rw [List.length_map] at h1
    have hs := sum_le ts hts xs h1 h2
    repeat trivial
    refine ⟨_, cbd_sumS (.lst _), ?_⟩
    exact hR _ hs.1 (by omega)
abbrev p_least_cut (K : PySem.W.Frag) : Sp := Pu K 2 (r2 fun a b Ψ => ∃ (many : Nat) (ts : List (List Int)) (ps ns : List Int), a = .tup [.tup [.int (many : Int), tiesD ts], .tup (ps.map .int)] ∧ SeqD b (ns.map .int) ∧ many ≤ 10 ∧ ps.length = 3 ∧ ns.length ≤ 3 ∧ (∀ n ∈ ns, 0 ≤ n ∧ n < 3) ∧ ts.length ≤ 7 ∧ (∀ t ∈ ts, tieOk t) ∧ ∀ x : Int, 0 ≤ x → x ≤ 28 → Ψ (.int x))
theorem itemOf_int {ns : List Int} {i : Nat} (h : i < ns.length) : itemOf (ns.map Dt.int) i = .int (ns.getD i 0) := by
  unfold itemOf
  rw [List.getD_eq_getElem?_getD, getD_map h]
  rfl
theorem d__law_least_cut (B : Bi mg) (D__law_cut : DefOk P w K mg base CX0 1 "_law_cut" ["net", "lot"] (p_cut K)) (F : TopD K mg "_law_least_cut" s__law_least_cut ["part", "lot"] f fd) : DefOk P w K mg base CX0 2 "_law_least_cut" ["part", "lot"] (p_least_cut K) := by
  refine F.ok (F.fn.ok sc__law_least_cut (fun _ _ _ _ => Pu.len) (fun cdv A outer s H vs Q E hr h => ⟨_, (pss_cons (ps_asg (pv 0) (kTup (K := K) (n := 2) rfl rfl (pgs_cons (pg_name (i := 2) sc__law_least_cut.nd rfl (.inl rfl)) (pgs_cons (pg_name (i := 3) sc__law_least_cut.nd rfl (.inr rfl)) pgs_nil))))
      (pss_cons (ps_set (i := 4) sc__law_least_cut.nd rfl (.inr rfl) (pe_lc (own := [("place", 5)]) (g := (gName 5)) (tt := _) rfl sc__law_least_cut.nd (pi_range1 (by rfl) B.range (pa_cons (pe_ix (kIx (K := K) rfl) (pv 2) pe_int (fun _ _ => rfl)) pa_nil)) (blkOk_by (own := [("place", 5)]) (N := ["part", "lot", "net", "posts", "inner", "place", "here", "least", "k", "code", "places", "some"]) (sc := defScope s__law_least_cut) (by decide +kernel)) (fun _ _ _ _ _ => (pg_name (i := 5) sc__law_least_cut.nd rfl (.inl rfl))) (fun _ _ _ _ _ => (pts_one (pt_cmpR (kNin (K := K) rfl) (pv 5) (pv 3) (by rfl)))) (fun _ _ _ _ _ => (pv 5))))
      (pss_cons (ps_par (i := 6) (j := 7) (by rfl) sc__law_least_cut.nd rfl rfl (by decide) rfl rfl (pa_cons (pe_lc (own := [("k", 8)]) (g := (gName 8)) (tt := tYes) rfl sc__law_least_cut.nd (kSeq (K := K) rfl (pv 1)) (blkOk_by (own := [("k", 8)]) (N := ["part", "lot", "net", "posts", "inner", "place", "here", "least", "k", "code", "places", "some"]) (sc := defScope s__law_least_cut) (by decide +kernel)) (fun _ _ _ _ _ => (pg_name (i := 8) sc__law_least_cut.nd rfl (.inl rfl))) (fun _ _ _ _ _ => pts_nil) (fun _ _ _ _ _ => (pe_ix (kIx (K := K) rfl) (pv 3) (pv 8) (fun _ _ => rfl)))) (pa_cons pe_non pa_nil)) (by rfl))
      (pss_cons (ps_for PassesOwn.never rfl (pi_range1 (by rfl) B.range (pa_cons (pe_op op_shl pe_int (pe_b (kLen (K := K) rfl) B.len (pa_cons (pv 4) pa_nil))) pa_nil)) (pg_name (i := 9) sc__law_least_cut.nd rfl (.inr rfl)) (pss_cons (ps_set (i := 10) sc__law_least_cut.nd rfl (.inl rfl) (pe_op op_cat (pv 6) (pe_lc (own := [("k", 8)]) (g := (gName 8)) (tt := _) rfl sc__law_least_cut.nd (pi_range1 (by rfl) B.range (pa_cons (pe_b (kLen (K := K) rfl) B.len (pa_cons (pv 4) pa_nil)) pa_nil)) (blkOk_by (own := [("k", 8)]) (N := ["part", "lot", "net", "posts", "inner", "place", "here", "least", "k", "code", "places", "some"]) (sc := defScope s__law_least_cut) (by decide +kernel)) (fun _ _ _ _ _ => (pg_name (i := 8) sc__law_least_cut.nd rfl (.inl rfl))) (fun _ _ _ _ _ => (pts_one (pt_cmpR op_eq (pe_op op_and (pe_op op_shr (pv 9) (pv 8)) pe_int) pe_int (nomark _)))) (fun _ _ _ _ _ => (pe_ix (kIx (K := K) rfl) (pv 4) (pv 8) (fun _ _ => rfl))))))
      (pss_cons (ps_set (i := 11) sc__law_least_cut.nd rfl (.inl rfl) (pe_d D__law_cut hr pass0 (pa_cons (pv 2) (pa_cons (pv 10) pa_nil))))
      (pss_one (ps_set (i := 7) sc__law_least_cut.nd rfl (.inl rfl) (pe_ifExp (pt_cmpR op_isN (pv 7) pe_non (nomark _)) (pv 11) (pe_b (call_min2 rfl) B.min (pa_cons (pv 7) (pa_cons (pv 11) pa_nil)))))))))
      (pss_one (ps_ret (pv 7))))))),
    pu_start h (by decide) fun r ds Ψ hl hR => ?_⟩))
  try dsimp only [cxOf, Cx.nox]
  obtain ⟨a, b, rfl⟩ := ds2 hl
  dsimp only [r2] at hR
  obtain ⟨many, ts, ps, ns, rfl, q, hmany, hps, hns, hin, hl7, hts, hR⟩ := hR
  repeat trivial
  refine sv_asg (EvN.ev (en_lc (js := [5]) (fun _ h => h) (src_range ?_)))
  repeat trivial
  refine ⟨_, opd_ix (n := 0) (.tup _) rfl, ?_⟩
  repeat trivial
  refine ⟨by omega, by omega, by omega, rfl, fun i acc => ∃ xs : List Int, acc = xs.map .int ∧ xs.length ≤ i, ⟨[], rfl, Nat.le_refl _⟩, ?_, ?_⟩
  · rintro i acc hi ⟨xs, rfl, h1⟩
    refine tg_name (Nat.le_of_ble_eq_true rfl) (et_any ?_ fun c => ?_)
    · repeat trivial
      refine ⟨_, opd_ninI (.tup _), ?_⟩
      repeat trivial
    · cases c with
      | true =>
        repeat trivial
        exact ⟨xs ++ [(i : Int)], by rw [List.map_append]; rfl, by rw [List.length_append]; exact Nat.succ_le_succ h1⟩
      | false => exact ite_f rfl ⟨rfl, xs, rfl, Nat.le_succ_of_le h1⟩
  · rintro acc ⟨inner, rfl, hin1⟩
    have hin10 : inner.length ≤ 10 := by omega
    repeat trivial
    refine sv_par (EvN.ev (en_lc (js := [8]) (fun _ h => h) (src_seq ?_)))
    repeat trivial
    refine ⟨ns.map .int, q, by rw [List.length_map]; omega, rfl, fun i acc => ∃ xs : List Int, acc = xs.map .int ∧ xs.length ≤ i, ⟨[], rfl, Nat.le_refl _⟩, ?_, ?_⟩
    · rintro i acc hi ⟨xs, rfl, h1⟩
      rw [List.length_map] at hi
      rw [itemOf_int hi]
      have hm : ns.getD i 0 ∈ ns := by
        rw [List.getD_eq_getElem?_getD, List.getElem?_eq_getElem hi]
        exact List.getElem_mem hi
      obtain ⟨b1, b2⟩ := hin _ hm
      obtain ⟨k, hk⟩ : ∃ k : Nat, ns.getD i 0 = (k : Int) := ⟨(ns.getD i 0).toNat, by omega⟩
      rw [hk]
      repeat trivial
      refine ⟨_, opd_ix (.tup _) (by rw [atI_ok (by rw [List.length_map]; omega), getD_map (by omega)]), ?_⟩
      exact ⟨rfl, xs ++ [ps.getD k 0], by rw [List.map_append]; rfl, by rw [List.length_append]; exact Nat.succ_le_succ h1⟩
    · rintro acc ⟨here, rfl, hh⟩
      rw [List.length_map] at hh
      repeat trivial
      refine sv_for (js := [9]) (src_range ?_)
      repeat trivial
      refine ⟨_, cbd_len (.lst _), ?_⟩
      repeat trivial
      rw [List.length_map]
      refine ⟨_, opd_I ⟨by omega, by omega, by decide⟩, ?_⟩
      repeat trivial
      have hpow : (1 : Int) * 2 ^ (inner.length : Int).toNat = ((2 ^ inner.length : Nat) : Int) := by
        rw [Int.toNat_natCast, Int.one_mul]
        exact (Int.natCast_pow 2 inner.length).symm
      have hle : 2 ^ inner.length ≤ 2 ^ 10 := Nat.pow_le_pow_right (by decide) hin10
      have hpos : 0 < 2 ^ inner.length := Nat.pow_pos (by decide)
      rw [hpow]
      refine ⟨by omega, by omega, fun i Γ => ∃ (o : Option Int) (x5 x9 x10 x11 : Arg), Γ = [.d (.tup [.tup [.int (many : Int), tiesD ts], .tup (ps.map .int)]), .d b, .d (.tup [.int (many : Int), tiesD ts]), .d (.tup (ps.map .int)), .d (.lst (inner.map .int)), x5, .d (.lst (here.map .int)), .d (oi o), .any, x9, x10, x11] ∧ (∀ x, o = some x → 0 ≤ x ∧ x ≤ 28) ∧ (0 < i → o ≠ none), ?_, ?_, ?_⟩
      · exact ⟨none, .any, .any, .any, .any, rfl, (fun x hx => nomatch hx), fun h => absurd h (by decide)⟩
      · rintro i Γ hi ⟨o, x5, x9, x10, x11, rfl, ho, _⟩
        repeat trivial
        refine EvN.ev (en_lc (js := [8]) (fun _ h => h) (src_range ?_))
        repeat trivial
        refine ⟨_, cbd_len (.lst _), ?_⟩
        repeat trivial
        rw [List.length_map]
        refine ⟨by omega, by omega, by omega, rfl, fun i acc => ∃ xs : List Int, acc = xs.map .int ∧ xs.length ≤ i, ⟨[], rfl, Nat.le_refl _⟩, ?_, ?_⟩
        · rintro j acc hj ⟨xs, rfl, h1⟩
          refine tg_name (Nat.le_of_ble_eq_true rfl) (et_any ?_ fun c => ?_)
          · repeat trivial
            refine ⟨_, opd_I (Int.natCast_nonneg j), ?_⟩
            repeat trivial
          · cases c with
            | true =>
              repeat trivial
              refine ⟨_, opd_ix (.lst _) (by rw [atI_ok (by rw [List.length_map]; omega), getD_map (by omega)]), ?_⟩
              exact ⟨rfl, xs ++ [inner.getD j 0], by rw [List.map_append]; rfl, by rw [List.length_append]; exact Nat.succ_le_succ h1⟩
            | false => exact ite_f rfl ⟨rfl, xs, rfl, Nat.le_succ_of_le h1⟩
        · rintro acc ⟨xs, rfl, h1⟩
          refine ⟨_, opd_cat (by rw [List.length_map, List.length_map]; omega), ?_⟩
          repeat trivial
          refine ⟨(many : Int), ts, here ++ xs, rfl, by rw [List.map_append]; exact .lst _, hl7, hts, fun x hx0 hx1 => ?_⟩
          repeat trivial
          cases o with
          | none =>
            repeat trivial
            exact ⟨some x, _, _, _, _, rfl, (fun y hy => by cases hy; exact ⟨hx0, hx1⟩), fun _ z => nomatch z⟩
          | some y =>
            have hy := ho y rfl
            repeat trivial
            refine ⟨_, cbd_min2, ?_⟩
            repeat trivial
            exact ⟨some (min y x), _, _, _, _, rfl, (fun z hz => by cases hz; omega), fun _ z => nomatch z⟩
      · rintro Γ ⟨o, x5, x9, x10, x11, rfl, ho, hn⟩
        have hne := hn (by omega)
        cases o with
        | none => exact absurd rfl hne
        | some x =>
          repeat trivial
          exact hR x (ho x rfl).1 (ho x rfl).2
end
end Cp
/-! K81h: parts drawn, their tables -/
namespace Cp
open PySem PySem.Spec PyProof.Rows L2
local macro_rules | `(tactic| trivial) => `(tactic| with_reducible refine ea_nil ?_)
local macro_rules | `(tactic| trivial) => `(tactic| with_reducible refine ea_cons ?_)
local macro_rules | `(tactic| trivial) => `(tactic| with_reducible refine et_test ?_)
local macro_rules | `(tactic| trivial) => `(tactic| with_reducible refine et_yes ?_)
local macro_rules | `(tactic| trivial) => `(tactic| with_reducible refine et_B ?_)
local macro_rules | `(tactic| trivial) => `(tactic| with_reducible refine ev_lenS ?_)
local macro_rules | `(tactic| trivial) => `(tactic| with_reducible refine et_and ?_)
local macro_rules | `(tactic| trivial) => `(tactic| with_reducible refine et_or ?_)
local macro_rules | `(tactic| trivial) => `(tactic| with_reducible refine et_not ?_)
local macro_rules | `(tactic| trivial) => `(tactic| with_reducible refine ev_if ?_)
local macro_rules | `(tactic| trivial) => `(tactic| with_reducible refine ev_chain ?_)
local macro_rules | `(tactic| trivial) => `(tactic| with_reducible refine ev_and ?_)
local macro_rules | `(tactic| trivial) => `(tactic| with_reducible refine ev_or ?_)
local macro_rules | `(tactic| trivial) => `(tactic| with_reducible refine ev_not ?_)
local macro_rules | `(tactic| trivial) => `(tactic| with_reducible refine ev_op ?_)
local macro_rules | `(tactic| trivial) => `(tactic| with_reducible refine ev_cb ?_)
local macro_rules | `(tactic| trivial) => `(tactic| with_reducible refine ev_isi kit_int ?_)
local macro_rules | `(tactic| trivial) => `(tactic| with_reducible refine ev_isi kit_bool ?_)
local macro_rules | `(tactic| trivial) => `(tactic| with_reducible refine ev_isi kit_str ?_)
local macro_rules | `(tactic| trivial) => `(tactic| with_reducible refine ev_isi kit_list ?_)
local macro_rules | `(tactic| trivial) => `(tactic| with_reducible refine ev_isi kit_tuple ?_)
local macro_rules | `(tactic| trivial) => `(tactic| with_reducible refine ev_isi2 kit_list kit_tuple ?_)
local macro_rules | `(tactic| trivial) => `(tactic| with_reducible refine ev_call ?_)
local macro_rules | `(tactic| trivial) => `(tactic| with_reducible refine ev_tup ?_)
local macro_rules | `(tactic| trivial) => `(tactic| with_reducible refine ev_i ?_)
local macro_rules | `(tactic| trivial) => `(tactic| with_reducible refine ev_b ?_)
local macro_rules | `(tactic| trivial) => `(tactic| with_reducible refine ev_n ?_)
local macro_rules | `(tactic| trivial) => `(tactic| with_reducible refine ev_s ?_)
local macro_rules | `(tactic| trivial) => `(tactic| ((with_reducible apply ev_var); · exact rfl))
local macro_rules | `(tactic| trivial) => `(tactic| ((with_reducible apply ev_varV); (· exact rfl); (· assumption)))
local macro_rules | `(tactic| trivial) => `(tactic| with_reducible refine sv_ret ?_)
local macro_rules | `(tactic| trivial) => `(tactic| with_reducible refine sv_if ?_)
local macro_rules | `(tactic| trivial) => `(tactic| (with_reducible refine sv_nx ?_))
local macro_rules | `(tactic| trivial) => `(tactic| ((with_reducible apply le_and); · exact rfl))
local macro_rules | `(tactic| trivial) => `(tactic| ((with_reducible apply lt_and); · exact rfl))
local macro_rules | `(tactic| trivial) => `(tactic| ((with_reducible apply ex_and); · exact rfl))
local macro_rules | `(tactic| trivial) => `(tactic| (((with_reducible apply eq_and); · exact rfl); try dsimp only [r0, r1, r2, r3, r4, x1, x2]))
local macro_rules | `(tactic| trivial) => `(tactic| with_reducible refine ⟨_, opd_I0, ?_⟩)
local macro_rules | `(tactic| trivial) => `(tactic| with_reducible refine ⟨_, opd_B0, ?_⟩)
local macro_rules | `(tactic| trivial) => `(tactic| with_reducible refine ⟨_, opd_isN, ?_⟩)
local macro_rules | `(tactic| trivial) => `(tactic| with_reducible refine ⟨_, opd_notN, ?_⟩)
local macro_rules | `(tactic| trivial) => `(tactic| with_reducible refine ⟨_, opd_isB, ?_⟩)
local macro_rules | `(tactic| trivial) => `(tactic| with_reducible refine ⟨_, opd_eqI, ?_⟩)
local macro_rules | `(tactic| trivial) => `(tactic| with_reducible refine ⟨_, opd_neI, ?_⟩)
local macro_rules | `(tactic| trivial) => `(tactic| ((with_reducible apply ite_t); · exact rfl))
local macro_rules | `(tactic| trivial) => `(tactic| ((with_reducible apply ite_f); · exact rfl))
local macro_rules | `(tactic| trivial) => `(tactic| with_reducible refine sv_seq ?_)
local macro_rules | `(tactic| trivial) => `(tactic| with_reducible refine tgl_nil ?_)
local macro_rules | `(tactic| trivial) => `(tactic| with_reducible apply tgl_cons)
local macro_rules | `(tactic| trivial) => `(tactic| ((with_reducible apply tg_tup); · exact rfl))
local macro_rules | `(tactic| trivial) => `(tactic| ((with_reducible apply tg_sqt); · exact rfl))
local macro_rules | `(tactic| trivial) => `(tactic| ((with_reducible refine tg_name ?_ ?_); · exact Nat.le_of_ble_eq_true rfl))
local macro_rules | `(tactic| trivial) => `(tactic| with_reducible refine sv_drop (te := tCallS _ _ _) ?_)
local macro_rules | `(tactic| trivial) => `(tactic| with_reducible refine sv_asg (te := tOp _ _ _) ?_)
local macro_rules | `(tactic| trivial) => `(tactic| with_reducible refine sv_asg (te := tCall _ _ _ _) ?_)
local macro_rules | `(tactic| trivial) => `(tactic| with_reducible refine sv_asg (te := tCallS _ _ _) ?_)
local macro_rules | `(tactic| trivial) => `(tactic| with_reducible refine sv_asg (te := tIf _ _ _) ?_)
local macro_rules | `(tactic| trivial) => `(tactic| with_reducible refine sv_asg (te := tVar _) ?_)
local macro_rules | `(tactic| trivial) => `(tactic| with_reducible refine sv_asg (te := tC _) ?_)
local macro_rules | `(tactic| trivial) => `(tactic| with_reducible refine sv_asg (te := tTup _) ?_)
local macro_rules | `(tactic| trivial) => `(tactic| with_reducible refine sv_asg (te := tAndV _ _) ?_)
local macro_rules | `(tactic| trivial) => `(tactic| with_reducible refine sv_asg (te := tOrV _ _) ?_)
local macro_rules | `(tactic| trivial) => `(tactic| with_reducible refine sv_asg (te := tNotV _) ?_)
local macro_rules | `(tactic| trivial) => `(tactic| with_reducible refine sv_asg (te := tDGet _ _) ?_)
local macro_rules | `(tactic| trivial) => `(tactic| with_reducible refine sv_asg (te := tUn _ _) ?_)
local macro_rules | `(tactic| trivial) => `(tactic| with_reducible apply sv_asgTp)
local macro_rules | `(tactic| trivial) => `(tactic| ((with_reducible apply ev_box0); · exact rfl))
local macro_rules | `(tactic| trivial) => `(tactic| ((with_reducible apply ev_box1); · exact rfl))
local macro_rules | `(tactic| trivial) => `(tactic| ((with_reducible apply ev_box2); · exact rfl))
local macro_rules | `(tactic| trivial) => `(tactic| ((with_reducible apply ev_box3); · exact rfl))
local macro_rules | `(tactic| trivial) => `(tactic| with_reducible apply sv_asgLp)
local macro_rules | `(tactic| trivial) => `(tactic| ((with_reducible apply tg_lst); · exact rfl))
abbrev s__law_lots : Stmt := topS 40
theorem sc__law_lots : FnScope ["posts", "k", "code"] ["posts"] (defScope s__law_lots) := ⟨rfl, rfl, rfl, by decide +kernel, rfl, by decide +kernel, by decide +kernel⟩
abbrev s__law_table : Stmt := topS 41
theorem sc__law_table : FnScope ["part", "lot"] ["part"] (defScope s__law_table) := ⟨rfl, rfl, rfl, by decide +kernel, rfl, by decide +kernel, by decide +kernel⟩
abbrev s__law_ties : Stmt := topS 42
theorem sc__law_ties : FnScope ["box", "many", "count", "room", "price", "ties", "k", "a", "b"] ["box", "many", "count", "room", "price"] (defScope s__law_ties) := ⟨rfl, rfl, rfl, by decide +kernel, rfl, by decide +kernel, by decide +kernel⟩
abbrev s__law_part : Stmt := topS 43
theorem sc__law_part : FnScope ["box", "posts", "many", "ties"] ["box", "posts"] (defScope s__law_part) := ⟨rfl, rfl, rfl, by decide +kernel, rfl, by decide +kernel, by decide +kernel⟩
abbrev s__law_lots_of : Stmt := topS 45
theorem sc__law_lots_of : FnScope [] [] (defScope s__law_lots_of) := ⟨rfl, rfl, rfl, by decide +kernel, rfl, by decide +kernel, by decide +kernel⟩
theorem lotOf_filter (n : Int) (m : Nat) : (List.range m).filterMap (fun i : Nat => if decide (Builtin.bitAnd (n / 2 ^ i) 1 = 1) = true then some (Dt.int (i : Int)) else none) = (lotOf n m).map Dt.int := by
  unfold lotOf
  rw [List.map_map]
  induction List.range m with
  | nil => rfl
  | cons x xs ih =>
    rw [List.filterMap_cons, List.filter_cons]
    by_cases h : decide (Builtin.bitAnd (n / 2 ^ x) 1 = 1) = true
    · rw [if_pos h, if_pos h, List.map_cons, ih]
      rfl
    · rw [if_neg h, if_neg h, ih]
section
variable {P : Program} {w : World} {K : PySem.W.Frag} {mg : Str → Option Value} {base : Heap} {f : Addr} {fd : FuncData}
abbrev p_lots (K : PySem.W.Frag) : Sp := Pu K 1 (r1 fun a Ψ => a = .int 3 ∧ Ψ (.lst ((List.range 8).map fun c : Nat => .lst ((lotOf (c : Int) 3).map .int))))
theorem lots_len : ∀ c : Fin 8, (lotOf (c.val : Int) 3).length ≤ 3 ∧ ∀ n ∈ lotOf (c.val : Int) 3, 0 ≤ n ∧ n < 3 := by decide +kernel
theorem d__law_lots (B : Bi mg) (F : TopD K mg "_law_lots" s__law_lots ["posts"] f fd) : DefOk P w K mg base CX0 1 "_law_lots" ["posts"] (p_lots K) := by
  refine F.ok (F.fn.ok sc__law_lots (fun _ _ _ _ => Pu.len) (fun cdv A outer s H vs Q E hr h => ⟨_, (pss_one (ps_ret (pe_lc (own := [("code", 2)]) (g := (gName 2)) (tt := tYes) rfl sc__law_lots.nd (pi_range1 (by rfl) B.range (pa_cons (pe_op op_shl pe_int (pv 0)) pa_nil)) (blkOk_by (own := [("code", 2)]) (N := ["posts", "k", "code"]) (sc := defScope s__law_lots) (by decide +kernel)) (fun _ _ _ _ _ => (pg_name (i := 2) sc__law_lots.nd rfl (.inr rfl))) (fun _ _ _ _ _ => pts_nil) (fun _ _ _ _ _ => (pe_lc (own := [("k", 1)]) (g := (gName 1)) (tt := _) rfl sc__law_lots.nd (pi_range1 (by rfl) B.range (pa_cons (pv 0) pa_nil)) (blkOk_by (own := [("k", 1)]) (N := ["posts", "k", "code"]) (sc := { kind := .function, names := [(".0", .local), ("code", .cell), ("range", .globalImplicit), ("posts", .cell)], isGenerator := false, isCoroutine := false }) (by decide +kernel)) (fun _ _ _ _ _ => (pg_name (i := 1) sc__law_lots.nd rfl (.inl rfl))) (fun _ _ _ _ _ => (pts_one (pt_cmpR op_eq (pe_op op_and (pe_op op_shr (pv 2) (pv 1)) pe_int) pe_int (nomark _)))) (fun _ _ _ _ _ => (pv 1))))))),
    pu_start h (by decide) fun r ds Ψ hl hR => ?_⟩))
  try dsimp only [cxOf, Cx.nox]
  obtain ⟨a, rfl⟩ := ds1 hl
  dsimp only [r1] at hR
  obtain ⟨rfl, hR⟩ := hR
  repeat trivial
  refine EvN.ev (en_lcF (js := [2]) (fun _ h => h) (src_range ?_))
  repeat trivial
  refine ⟨_, opd_I ⟨by decide, by decide, by decide⟩, ea_nil ?_⟩
  refine ⟨_, rfl, by decide, by decide, by decide, rfl, fun c => some (.lst ((lotOf (c : Int) 3).map .int)), fun i hi => tg_name (Nat.le_of_ble_eq_true rfl) ?_, ?_⟩
  · repeat trivial
    refine EvN.ev (en_lcF (js := [1]) (fun _ h => h) (src_range (ea_cons (ev_var rfl (ea_nil ?_)))))
    refine ⟨_, rfl, by decide, by decide, by decide, rfl, fun j => if decide (Builtin.bitAnd ((i : Int) / 2 ^ j) 1 = 1) = true then some (.int (j : Int)) else none, fun j hj => tg_name (Nat.le_of_ble_eq_true rfl) ?_, ?_⟩
    · repeat trivial
      refine ⟨_, opd_I (Int.natCast_nonneg j), ?_⟩
      repeat trivial
      rw [Int.toNat_natCast]
      by_cases h : Builtin.bitAnd ((i : Int) / 2 ^ j) 1 = 1
      · rw [decide_eq_true h]
        repeat trivial
        exact if_pos (decide_eq_true h)
      · rw [decide_eq_false h]
        refine ite_f rfl ⟨rfl, if_neg ?_⟩
        rw [decide_eq_false h]
        exact Bool.false_ne_true
    · refine ⟨rfl, ?_⟩
      exact congrArg (fun z => some (Dt.lst z)) (lotOf_filter (i : Int) 3).symm
  · have e : (List.range ((1 : Int) * 2 ^ (3 : Int).toNat).toNat).filterMap (fun c : Nat => some (Dt.lst ((lotOf (c : Int) 3).map .int))) = (List.range 8).map fun c : Nat => .lst ((lotOf (c : Int) 3).map .int) := range_map _ _
    rw [e]
    exact hR
abbrev partOk (d : Dt) : Prop := ∃ (many : Nat) (ts : List (List Int)) (ps : List Int), d = .tup [.tup [.int (many : Int), tiesD ts], .tup (ps.map .int)] ∧ many ≤ 10 ∧ ps.length = 3 ∧ ts.length ≤ 7 ∧ ∀ t ∈ ts, tieOk t
abbrev p_table (K : PySem.W.Frag) : Sp := Pu K 1 (r1 fun a Ψ => partOk a ∧ ∀ xs : List Int, xs.length = 8 → (∀ x ∈ xs, 0 ≤ x ∧ x ≤ 28) → Ψ (.tup (xs.map .int)))
theorem d__law_table (B : Bi mg) (D__law_lots : DefOk P w K mg base CX0 1 "_law_lots" ["posts"] (p_lots K)) (D__law_least_cut : DefOk P w K mg base CX0 2 "_law_least_cut" ["part", "lot"] (p_least_cut K)) (F : TopD K mg "_law_table" s__law_table ["part"] f fd) : DefOk P w K mg base CX0 3 "_law_table" ["part"] (p_table K) := by
  refine F.ok (F.fn.ok sc__law_table (fun _ _ _ _ => Pu.len) (fun cdv A outer s H vs Q E hr h => ⟨_, (pss_one (ps_ret (pe_t (kTuple (K := K) rfl) B.tuple (pa_cons (pe_lc (own := [("lot", 1)]) (g := (gName 1)) (tt := tYes) rfl sc__law_table.nd (kSeq (K := K) rfl (pe_d D__law_lots hr pass0 (pa_cons (pe_b (kLen (K := K) rfl) B.len (pa_cons (pe_ix (kIx (K := K) rfl) (pv 0) pe_int (fun _ _ => rfl)) pa_nil)) pa_nil))) (blkOk_by (own := [("lot", 1)]) (N := ["part", "lot"]) (sc := defScope s__law_table) (by decide +kernel)) (fun _ _ _ _ _ => (pg_name (i := 1) sc__law_table.nd rfl (.inl rfl))) (fun _ _ _ _ _ => pts_nil) (fun _ _ _ _ _ => (pe_d D__law_least_cut hr pass0 (pa_cons (pv 0) (pa_cons (pv 1) pa_nil))))) pa_nil)))),
    pu_start h (by decide) fun r ds Ψ hl hR => ?_⟩))
  try dsimp only [cxOf, Cx.nox]
  obtain ⟨a, rfl⟩ := ds1 hl
  dsimp only [r1] at hR
  obtain ⟨⟨many, ts, ps, rfl, h1, h2, h3, h4⟩, hR⟩ := hR
  repeat trivial
  refine EvN.ev (en_lc (js := [1]) (fun _ h => h) (src_seq ?_))
  repeat trivial
  refine ⟨_, opd_ix (n := 1) (.tup _) rfl, ?_⟩
  repeat trivial
  refine ⟨_, cbd_len (.tup _), ?_⟩
  repeat trivial
  rw [List.length_map, h2]
  refine ⟨rfl, _, .lst _, by rw [List.length_map, List.length_range]; decide, rfl, fun i acc => ∃ xs : List Int, acc = xs.map .int ∧ xs.length = i ∧ ∀ x ∈ xs, 0 ≤ x ∧ x ≤ 28, ⟨[], rfl, rfl, fun x hx => nomatch hx⟩, ?_, ?_⟩
  · rintro i acc hi ⟨xs, rfl, g1, g2⟩
    rw [List.length_map, List.length_range] at hi
    have ei : itemOf ((List.range 8).map fun c : Nat => Dt.lst ((lotOf (c : Int) 3).map .int)) i = .lst ((lotOf (i : Int) 3).map .int) := by
      unfold itemOf
      rw [List.getD_eq_getElem?_getD, List.getElem?_map, List.getElem?_range hi]
      rfl
    rw [ei]
    obtain ⟨l1, l2⟩ := lots_len ⟨i, hi⟩
    repeat trivial
    refine ⟨many, ts, ps, lotOf (i : Int) 3, rfl, .lst _, h1, h2, l1, l2, h3, h4, fun x x0 x1 => ⟨rfl, xs ++ [x], by rw [List.map_append]; rfl, by rw [List.length_append, g1]; rfl, fun y hy => ?_⟩⟩
    rcases List.mem_append.mp hy with z | z
    · exact g2 y z
    · rw [List.mem_singleton.mp z]
      exact ⟨x0, x1⟩
  · rintro acc ⟨xs, rfl, g1, g2⟩
    rw [List.length_map, List.length_range] at g1
    repeat trivial
    refine ⟨_, cbd_tupL (.inl rfl), ?_⟩
    exact hR xs g1 g2
abbrev p_ties (K : PySem.W.Frag) : Sp := PuB K 4 (fun ds => (ds.getD 1 .non).toI.toNat * ((ds.getD 0 .non).toI.toNat + 2)) (r4 fun a b c d Ψ => ∃ (many count : Nat) (price : Int), a = .int (many : Int) ∧ b = .int (count : Int) ∧ c = .int 4 ∧ d = .int price ∧ 2 ≤ many ∧ many ≤ 10 ∧ count ≤ 7 ∧ 0 < price ∧ price ≤ 100 ∧ ∀ ts : List (List Int), ts.length = count → (∀ t ∈ ts, tieOk t) → Ψ (.lst (ts.map (dtQ false))))
theorem perm_two {many : Nat} (h : 2 ≤ many) {es : List Dt} (hp : es.Perm ((List.range many).map fun i : Nat => Dt.int (i : Int))) : ∃ (p q : Int) (r : List Dt), es = .int p :: .int q :: r := by
  have hl : es.length = many := by
    rw [hp.length_eq, List.length_map, List.length_range]
  have all : ∀ d ∈ es, ∃ p : Int, d = .int p := fun d hd => by
    obtain ⟨i, _, e⟩ := List.mem_map.mp (hp.mem_iff.mp hd)
    exact ⟨(i : Int), e.symm⟩
  match es, hl, all with
  | x :: y :: r, _, all =>
    obtain ⟨p, rfl⟩ := all x List.mem_cons_self
    obtain ⟨q, rfl⟩ := all y (List.mem_cons_of_mem _ List.mem_cons_self)
    exact ⟨p, q, r, rfl⟩
  | [], hl, _ => rw [List.length_nil] at hl; omega
  | [_], hl, _ => rw [List.length_cons, List.length_nil] at hl; omega
theorem cut_two (x y : Dt) (r : List Dt) : cutD (x :: y :: r) none (some 2) = [x, y] := by
  have e1 : HT.sIx (r.length + 1 + 1) (r.length + 1 + 1) (some 2) = min 2 (r.length + 1 + 1) := HT.sIx_nat _ _ 2
  have e2 : min 2 (r.length + 1 + 1) = 2 := by omega
  simp [cutD, e1, e2, HT.sIx_none]
theorem d__law_ties (B : Bi mg) (D__law_take : DefOk P w K mg base CX0 1 "_law_take" ["box", "many"] (p_take K)) (D__law_mixed : DefOk P w K mg base CX0 2 "_law_mixed" ["box", "items"] (p_mixed K)) (F : TopD K mg "_law_ties" s__law_ties ["box", "many", "count", "room", "price"] f fd) : DefOk P w K mg base CX0 3 "_law_ties" ["box", "many", "count", "room", "price"] (p_ties K) := by
  refine F.ok (F.fn.ok sc__law_ties (fun _ _ _ _ => PuB.len) (fun cdv A outer s H vs Q E hr h => ⟨_, (pss_cons (ps_set (i := 5) sc__law_ties.nd rfl (.inl rfl) (pe_lst pa_nil))
      (pss_cons (ps_for PassesOwn.never rfl (pi_range1 (by rfl) B.range (pa_cons (pv 2) pa_nil)) (pg_name (i := 6) sc__law_ties.nd rfl (.inl rfl)) (pss_cons (ps_asg (pe_slice (kSl (K := K) rfl) (pe_d D__law_mixed hr pass0 (pa_cons (pv 0) (pa_cons (pe_lrg B.list B.range (pv 1)) pa_nil))) po_none (po_some pe_int)) (kLst (K := K) (n := 2) rfl rfl (pgs_cons (pg_name (i := 7) sc__law_ties.nd rfl (.inl rfl)) (pgs_cons (pg_name (i := 8) sc__law_ties.nd rfl (.inl rfl)) pgs_nil))))
      (pss_one (ps_expr (pe_bm PySem.F.plainAttrs_list PySem.F.slot_list_append PySem.F.type_list_append mt_append (pv 5) (pa_cons (pe_tup (pa_cons (pv 7) (pa_cons (pv 8) (pa_cons (pe_op op_add pe_int (pe_d D__law_take hr pass0 (pa_cons (pv 0) (pa_cons (pv 3) pa_nil)))) (pa_cons (pe_d D__law_take hr pass0 (pa_cons (pv 0) (pa_cons (pv 4) pa_nil))) pa_nil))))) pa_nil))))))
      (pss_one (ps_ret (pv 5))))),
    pb_start h (by decide) fun r a ds Ψ m hl hR => ?_⟩))
  try dsimp only [cxOf, Cx.nox]
  obtain ⟨v1, v2, v3, v4, rfl⟩ := ds4 hl
  dsimp only [r4] at hR
  obtain ⟨many, count, price, rfl, rfl, rfl, rfl, h2, h10, h7, hp0, hp1, hR⟩ := hR
  refine sv_seq (sv_asgN (en_lst ?_))
  repeat trivial
  refine sv_for (js := [6]) (src_range ?_)
  repeat trivial
  refine ⟨by omega, by omega, fun i Γ => ∃ (ts : List (List Int)) (x y z : Arg), Γ = [.box a (m + (count - i) * (many + 2)), .d (.int (many : Int)), .d (.int (count : Int)), .d (.int 4), .d (.int price), .l (ts.map (dtQ false)), x, y, z] ∧ ts.length = i ∧ ∀ t ∈ ts, tieOk t, ?_, ?_, ?_⟩
  · exact ⟨[], .any, .any, .any, rfl, rfl, fun t ht => nomatch ht⟩
  · rintro i Γ hi ⟨ts, x, y, z, rfl, hl, hts⟩
    have hi' : i < count := by omega
    have hb : (count - i) * (many + 2) = (count - (i + 1)) * (many + 2) + (many + 2) := by
      have e : count - i = (count - (i + 1)) + 1 := by omega
      rw [e, Nat.succ_mul]
    rw [hb]
    refine tg_name (Nat.le_of_ble_eq_true rfl) (sv_seq (sv_asgLp (js := [7] ++ ([8] ++ [])) (EvN.ev (en_sl ?_))))
    refine ev_callBL rfl (ea_cons (EvN.ev (en_lrg (ev_var rfl ⟨many, rfl, by omega, ea_nil ⟨rfl, m + (count - (i + 1)) * (many + 2) + 2, _, rfl, ?_, ?_⟩⟩))))
    · show _ + ((List.range many).map fun i : Nat => Dt.int (i : Int)).length ≤ _
      rw [List.length_map, List.length_range]
      omega
    · refine ⟨_, .lst _, by rw [List.length_map, List.length_range]; omega, List.all_eq_true.mpr fun d hd => ?_, fun es hp => ?_⟩
      · obtain ⟨j, _, rfl⟩ := List.mem_map.mp hd
        rfl
      · obtain ⟨p, q, rest, rfl⟩ := perm_two h2 hp
        refine eo_no ?_
        refine eo_at ?_
        repeat trivial
        refine ⟨_, .inl rfl, ?_⟩
        rw [cut_two]
        repeat trivial
        refine sv_app rfl (ev_tup ?_)
        repeat trivial
        refine ev_callBL rfl ?_
        repeat trivial
        refine ⟨m + (count - (i + 1)) * (many + 2) + 1, _, rfl, Nat.le_refl _, 4, rfl, by decide, by decide, fun t t0 t1 => ?_⟩
        repeat trivial
        refine ev_callBL rfl ?_
        repeat trivial
        refine ⟨m + (count - (i + 1)) * (many + 2), _, rfl, Nat.le_refl _, price, rfl, hp0, by omega, fun u u0 u1 => ?_⟩
        repeat trivial
        refine ⟨by rw [List.length_map]; omega, ts ++ [[p, q, 1 + t, u]], _, _, _, by rw [List.map_append]; rfl, by rw [List.length_append, hl]; rfl, fun t' ht => ?_⟩
        rcases List.mem_append.mp ht with z | z
        · exact hts t' z
        · exact ⟨p, q, 1 + t, u, List.mem_singleton.mp z, by omega, by omega⟩
  · rintro Γ ⟨ts, x, y, z, rfl, hl, hts⟩
    refine sv_ret (ev_frz rfl ?_)
    rw [Int.toNat_natCast] at hl
    exact ⟨⟨m + (count - (count : Int).toNat) * (many + 2), Nat.le_add_right _ _, rfl⟩, hR ts hl hts⟩
abbrev p_part (K : PySem.W.Frag) : Sp := PuB K 1 (fun _ => 100) (r1 fun a Ψ => a = .int 3 ∧ ∀ d, partOk d → Ψ d)
theorem tieOk_ne {t : List Int} (h : tieOk t) : t ≠ [] := by
  obtain ⟨a, b, r, p, e, _⟩ := h
  rw [e]
  exact fun z => nomatch z
theorem perm_ints {many : Nat} {es : List Dt} (hp : es.Perm ((List.range many).map fun i : Nat => Dt.int (i : Int))) : ∃ ps : List Int, es = ps.map .int ∧ ps.length = many := by
  have all : ∀ d ∈ es, d = .int d.toI := fun d hd => by
    obtain ⟨i, _, e⟩ := List.mem_map.mp (hp.mem_iff.mp hd)
    rw [← e]
    rfl
  refine ⟨es.map Dt.toI, ?_, by rw [List.length_map, hp.length_eq, List.length_map, List.length_range]⟩
  rw [List.map_map]
  exact (List.map_id'' (fun d => rfl) es).symm.trans (List.map_congr_left fun d hd => all d hd)
theorem d__law_part (B : Bi mg) (D__law_take : DefOk P w K mg base CX0 1 "_law_take" ["box", "many"] (p_take K)) (D__law_mixed : DefOk P w K mg base CX0 2 "_law_mixed" ["box", "items"] (p_mixed K)) (D__law_ties : DefOk P w K mg base CX0 3 "_law_ties" ["box", "many", "count", "room", "price"] (p_ties K)) (F : TopD K mg "_law_part" s__law_part ["box", "posts"] f fd) : DefOk P w K mg base CX0 4 "_law_part" ["box", "posts"] (p_part K) := by
  refine F.ok (F.fn.ok sc__law_part (fun _ _ _ _ => PuB.len) (fun cdv A outer s H vs Q E hr h => ⟨_, (pss_cons (ps_set (i := 2) sc__law_part.nd rfl (.inl rfl) (pe_op op_add (pv 1) (pe_d D__law_take hr pass0 (pa_cons (pv 0) (pa_cons pe_int pa_nil)))))
      (pss_cons (ps_set (i := 3) sc__law_part.nd rfl (.inl rfl) (pe_d D__law_ties hr pass0 (pa_cons (pv 0) (pa_cons (pv 2) (pa_cons (pe_op op_add (pv 1) (pe_d D__law_take hr pass0 (pa_cons (pv 0) (pa_cons pe_int pa_nil)))) (pa_cons pe_int (pa_cons pe_int pa_nil)))))))
      (pss_one (ps_ret (pe_tup (pa_cons (pe_tup (pa_cons (pv 2) (pa_cons (pe_t (kTuple (K := K) rfl) B.tuple (pa_cons (pe_b (kSortQ (K := K) false rfl hr) B.sorted (pa_cons (pv 3) pa_nil)) pa_nil)) pa_nil))) (pa_cons (pe_t (kTuple (K := K) rfl) B.tuple (pa_cons (pe_slice (kSl (K := K) rfl) (pe_d D__law_mixed hr pass0 (pa_cons (pv 0) (pa_cons (pe_lrg B.list B.range (pv 2)) pa_nil))) po_none (po_some (pv 1))) pa_nil)) pa_nil))))))),
    pb_start h (by decide) fun r a ds Ψ m hl hR => ?_⟩))
  try dsimp only [cxOf, Cx.nox]
  obtain ⟨v, rfl⟩ := ds1 hl
  dsimp only [r1] at hR
  obtain ⟨rfl, hR⟩ := hR
  repeat trivial
  refine ev_callBL rfl ?_
  repeat trivial
  refine ⟨m + 99, _, rfl, Nat.le_refl _, 3, rfl, by decide, by decide, fun t t0 t1 => ?_⟩
  obtain ⟨t, rfl⟩ : ∃ k : Nat, t = (k : Int) := ⟨t.toNat, by omega⟩
  repeat trivial
  refine ev_callBL rfl ?_
  repeat trivial
  refine ev_callBL rfl ?_
  repeat trivial
  refine ⟨m + 98, _, rfl, Nat.le_refl _, 5, rfl, by decide, by decide, fun u u0 u1 => ?_⟩
  obtain ⟨u, rfl⟩ : ∃ k : Nat, u = (k : Int) := ⟨u.toNat, by omega⟩
  repeat trivial
  refine ⟨m + 20, _, rfl, ?_, ?_⟩
  · show m + 20 + ((3 : Int) + (u : Int)).toNat * (((3 : Int) + (t : Int)).toNat + 2) ≤ m + 98
    have e1 : ((3 : Int) + (u : Int)).toNat ≤ 7 := by omega
    have e2 : ((3 : Int) + (t : Int)).toNat + 2 ≤ 7 := by omega
    have e3 := Nat.mul_le_mul e1 e2
    omega
  · refine ⟨3 + t, 3 + u, 6, by simp, by simp, rfl, rfl, by omega, by omega, by omega, by decide, by decide, fun ts hl hts => ?_⟩
    repeat trivial
    refine ⟨_, (cbn_sortQ rfl (fun _ t ht => tieOk_ne (hts t ht)) (by omega)).d, ?_⟩
    repeat trivial
    refine ⟨_, cbd_tupL (.inl rfl), ?_⟩
    repeat trivial
    refine EvN.ev (en_sl ?_)
    refine ev_callBL rfl (ea_cons (EvN.ev (en_lrg (ev_var rfl ⟨3 + t, by simp, by omega, ea_nil ⟨rfl, m, _, rfl, ?_, ?_⟩⟩))))
    · show m + ((List.range (3 + t)).map fun i : Nat => Dt.int (i : Int)).length ≤ _
      rw [List.length_map, List.length_range]
      omega
    · refine ⟨_, .lst _, by rw [List.length_map, List.length_range]; omega, List.all_eq_true.mpr fun d hd => ?_, fun es hp => ?_⟩
      · obtain ⟨j, _, rfl⟩ := List.mem_map.mp hd
        rfl
      · obtain ⟨ps, rfl, hps⟩ := perm_ints hp
        refine eo_no ?_
        refine eo_at ?_
        repeat trivial
        refine ⟨_, .inl rfl, ?_⟩
        have ec : cutD (ps.map Dt.int) none (some 3) = (ps.take 3).map Dt.int := by
          have e1 : HT.sIx ps.length ps.length (some 3) = min 3 ps.length := HT.sIx_nat _ _ 3
          have e2 : min 3 ps.length = 3 := by omega
          simp [cutD, e1, e2, HT.sIx_none, List.map_take]
        rw [ec]
        repeat trivial
        refine ⟨_, cbd_tupL (.inl rfl), ?_⟩
        repeat trivial
        refine ⟨⟨m, Nat.le_refl _, rfl⟩, hR _ ⟨3 + t, ts.mergeSort (leQ false), ps.take 3, by simp [tiesD], by omega, by rw [List.length_take]; omega, ?_, fun t' ht => hts t' ((List.mergeSort_perm _ _).mem_iff.mp ht)⟩⟩
        rw [List.length_mergeSort]
        omega
theorem d__law_lots_of (B : Bi mg) (F : TopD K mg "_law_lots_of" s__law_lots_of [] f fd) : DefOk P w K mg base CX0 1 "_law_lots_of" [] (Pu K 0 (r0 fun Ψ => Ψ (.lst [.lst [.int 0], .lst [.int 0, .int 1], .lst [.int 0, .int 2], .lst [.int 1], .lst [.int 1, .int 2], .lst [.int 2]]))) := by
  refine F.ok (F.fn.ok sc__law_lots_of (fun _ _ _ _ => Pu.len) (fun cdv A outer s H vs Q E hr h => ⟨_, (pss_one (ps_ret (pe_lst (pa_cons (pe_lst (pa_cons pe_int pa_nil)) (pa_cons (pe_lst (pa_cons pe_int (pa_cons pe_int pa_nil))) (pa_cons (pe_lst (pa_cons pe_int (pa_cons pe_int pa_nil))) (pa_cons (pe_lst (pa_cons pe_int pa_nil)) (pa_cons (pe_lst (pa_cons pe_int (pa_cons pe_int pa_nil))) (pa_cons (pe_lst (pa_cons pe_int pa_nil)) pa_nil))))))))),
    pu_start h (by decide) fun r ds Ψ hl hR => ?_⟩))
  try dsimp only [cxOf, Cx.nox]
  obtain rfl : ds = [] := List.length_eq_zero_iff.mp hl
  dsimp only [r0] at hR
  refine sv_ret (EvN.ev (en_lst ?_))
  refine ea_cons (EvN.ev (en_lst ?_))
  repeat trivial
  refine EvN.ev (en_lst ?_)
  repeat trivial
  refine EvN.ev (en_lst ?_)
  repeat trivial
  refine EvN.ev (en_lst ?_)
  repeat trivial
  refine EvN.ev (en_lst ?_)
  repeat trivial
  refine EvN.ev (en_lst ?_)
  repeat trivial
end
end Cp
/-! K81i: the law's own lowering -/
namespace Cp
open PySem PySem.Spec PyProof.Rows L2
local macro_rules | `(tactic| trivial) => `(tactic| with_reducible refine ea_nil ?_)
local macro_rules | `(tactic| trivial) => `(tactic| with_reducible refine ea_cons ?_)
local macro_rules | `(tactic| trivial) => `(tactic| with_reducible refine et_test ?_)
local macro_rules | `(tactic| trivial) => `(tactic| with_reducible refine et_yes ?_)
local macro_rules | `(tactic| trivial) => `(tactic| with_reducible refine et_B ?_)
local macro_rules | `(tactic| trivial) => `(tactic| with_reducible refine ev_lenS ?_)
local macro_rules | `(tactic| trivial) => `(tactic| with_reducible refine et_and ?_)
local macro_rules | `(tactic| trivial) => `(tactic| with_reducible refine et_or ?_)
local macro_rules | `(tactic| trivial) => `(tactic| with_reducible refine et_not ?_)
local macro_rules | `(tactic| trivial) => `(tactic| with_reducible refine ev_if ?_)
local macro_rules | `(tactic| trivial) => `(tactic| with_reducible refine ev_chain ?_)
local macro_rules | `(tactic| trivial) => `(tactic| with_reducible refine ev_and ?_)
local macro_rules | `(tactic| trivial) => `(tactic| with_reducible refine ev_or ?_)
local macro_rules | `(tactic| trivial) => `(tactic| with_reducible refine ev_not ?_)
local macro_rules | `(tactic| trivial) => `(tactic| with_reducible refine ev_op ?_)
local macro_rules | `(tactic| trivial) => `(tactic| with_reducible refine ev_cb ?_)
local macro_rules | `(tactic| trivial) => `(tactic| with_reducible refine ev_isi kit_int ?_)
local macro_rules | `(tactic| trivial) => `(tactic| with_reducible refine ev_isi kit_bool ?_)
local macro_rules | `(tactic| trivial) => `(tactic| with_reducible refine ev_isi kit_str ?_)
local macro_rules | `(tactic| trivial) => `(tactic| with_reducible refine ev_isi kit_list ?_)
local macro_rules | `(tactic| trivial) => `(tactic| with_reducible refine ev_isi kit_tuple ?_)
local macro_rules | `(tactic| trivial) => `(tactic| with_reducible refine ev_isi2 kit_list kit_tuple ?_)
local macro_rules | `(tactic| trivial) => `(tactic| with_reducible refine ev_call ?_)
local macro_rules | `(tactic| trivial) => `(tactic| with_reducible refine ev_tup ?_)
local macro_rules | `(tactic| trivial) => `(tactic| with_reducible refine ev_i ?_)
local macro_rules | `(tactic| trivial) => `(tactic| with_reducible refine ev_b ?_)
local macro_rules | `(tactic| trivial) => `(tactic| with_reducible refine ev_n ?_)
local macro_rules | `(tactic| trivial) => `(tactic| with_reducible refine ev_s ?_)
local macro_rules | `(tactic| trivial) => `(tactic| ((with_reducible apply ev_var); · exact rfl))
local macro_rules | `(tactic| trivial) => `(tactic| ((with_reducible apply ev_varV); (· exact rfl); (· assumption)))
local macro_rules | `(tactic| trivial) => `(tactic| with_reducible refine sv_ret ?_)
local macro_rules | `(tactic| trivial) => `(tactic| with_reducible refine sv_if ?_)
local macro_rules | `(tactic| trivial) => `(tactic| (with_reducible refine sv_nx ?_))
local macro_rules | `(tactic| trivial) => `(tactic| ((with_reducible apply le_and); · exact rfl))
local macro_rules | `(tactic| trivial) => `(tactic| ((with_reducible apply lt_and); · exact rfl))
local macro_rules | `(tactic| trivial) => `(tactic| ((with_reducible apply ex_and); · exact rfl))
local macro_rules | `(tactic| trivial) => `(tactic| (((with_reducible apply eq_and); · exact rfl); try dsimp only [r0, r1, r2, r3, r4, x1, x2]))
local macro_rules | `(tactic| trivial) => `(tactic| with_reducible refine ⟨_, opd_I0, ?_⟩)
local macro_rules | `(tactic| trivial) => `(tactic| with_reducible refine ⟨_, opd_B0, ?_⟩)
local macro_rules | `(tactic| trivial) => `(tactic| with_reducible refine ⟨_, opd_isN, ?_⟩)
local macro_rules | `(tactic| trivial) => `(tactic| with_reducible refine ⟨_, opd_notN, ?_⟩)
local macro_rules | `(tactic| trivial) => `(tactic| with_reducible refine ⟨_, opd_isB, ?_⟩)
local macro_rules | `(tactic| trivial) => `(tactic| with_reducible refine ⟨_, opd_eqI, ?_⟩)
local macro_rules | `(tactic| trivial) => `(tactic| with_reducible refine ⟨_, opd_neI, ?_⟩)
local macro_rules | `(tactic| trivial) => `(tactic| ((with_reducible apply ite_t); · exact rfl))
local macro_rules | `(tactic| trivial) => `(tactic| ((with_reducible apply ite_f); · exact rfl))
local macro_rules | `(tactic| trivial) => `(tactic| with_reducible refine sv_seq ?_)
local macro_rules | `(tactic| trivial) => `(tactic| with_reducible refine tgl_nil ?_)
local macro_rules | `(tactic| trivial) => `(tactic| with_reducible apply tgl_cons)
local macro_rules | `(tactic| trivial) => `(tactic| ((with_reducible apply tg_tup); · exact rfl))
local macro_rules | `(tactic| trivial) => `(tactic| ((with_reducible apply tg_sqt); · exact rfl))
local macro_rules | `(tactic| trivial) => `(tactic| ((with_reducible refine tg_name ?_ ?_); · exact Nat.le_of_ble_eq_true rfl))
local macro_rules | `(tactic| trivial) => `(tactic| with_reducible refine sv_drop (te := tCallS _ _ _) ?_)
local macro_rules | `(tactic| trivial) => `(tactic| with_reducible refine sv_asg (te := tOp _ _ _) ?_)
local macro_rules | `(tactic| trivial) => `(tactic| with_reducible refine sv_asg (te := tCall _ _ _ _) ?_)
local macro_rules | `(tactic| trivial) => `(tactic| with_reducible refine sv_asg (te := tCallS _ _ _) ?_)
local macro_rules | `(tactic| trivial) => `(tactic| with_reducible refine sv_asg (te := tIf _ _ _) ?_)
local macro_rules | `(tactic| trivial) => `(tactic| with_reducible refine sv_asg (te := tVar _) ?_)
local macro_rules | `(tactic| trivial) => `(tactic| with_reducible refine sv_asg (te := tC _) ?_)
local macro_rules | `(tactic| trivial) => `(tactic| with_reducible refine sv_asg (te := tTup _) ?_)
local macro_rules | `(tactic| trivial) => `(tactic| with_reducible refine sv_asg (te := tAndV _ _) ?_)
local macro_rules | `(tactic| trivial) => `(tactic| with_reducible refine sv_asg (te := tOrV _ _) ?_)
local macro_rules | `(tactic| trivial) => `(tactic| with_reducible refine sv_asg (te := tNotV _) ?_)
local macro_rules | `(tactic| trivial) => `(tactic| with_reducible refine sv_asg (te := tDGet _ _) ?_)
local macro_rules | `(tactic| trivial) => `(tactic| with_reducible refine sv_asg (te := tUn _ _) ?_)
local macro_rules | `(tactic| trivial) => `(tactic| with_reducible apply sv_asgTp)
local macro_rules | `(tactic| trivial) => `(tactic| ((with_reducible apply ev_box0); · exact rfl))
local macro_rules | `(tactic| trivial) => `(tactic| ((with_reducible apply ev_box1); · exact rfl))
local macro_rules | `(tactic| trivial) => `(tactic| ((with_reducible apply ev_box2); · exact rfl))
local macro_rules | `(tactic| trivial) => `(tactic| ((with_reducible apply ev_box3); · exact rfl))
local macro_rules | `(tactic| trivial) => `(tactic| with_reducible apply sv_asgLp)
local macro_rules | `(tactic| trivial) => `(tactic| ((with_reducible apply tg_lst); · exact rfl))
abbrev s__law_sentences : Stmt := topS 46
theorem sc__law_sentences : FnScope ["found", "i", "j", "k"] [] (defScope s__law_sentences) := ⟨rfl, rfl, rfl, by decide +kernel, rfl, by decide +kernel, by decide +kernel⟩
abbrev s__law_tops : Stmt := topS 47
theorem sc__law_tops : FnScope ["answers", "tops_v", "lot", "low", "high", "turn", "x", "y", "z", "most"] ["answers"] (defScope s__law_tops) := ⟨rfl, rfl, rfl, by decide +kernel, rfl, by decide +kernel, by decide +kernel⟩
def tp (ns : List Int) : Dt := .tup (ns.map .int)
def sents : List (List Int × List Int × List Int) := [([0], [0, 1], [0, 2]), ([1, 2], [1], [2]), ([1], [0, 1], [1, 2]), ([0, 2], [0], [2]), ([2], [0, 2], [1, 2]), ([0, 1], [0], [1])]
def stD (s : List Int × List Int × List Int) : Dt := .tup [tp s.1, tp s.2.1, tp s.2.2]
def srt (a b : Int) : List Int := if a ≤ b then [a, b] else [b, a]
theorem cbd_sorted2 {K : PySem.W.Frag} {a b : Int} : CbD K (rSorted K) [.lst [.int a, .int b]] (.lst ((srt a b).map .int)) := by
  have h : (srt a b).Perm [a, b] ∧ (srt a b).Pairwise (· ≤ ·) := by
    unfold srt
    by_cases h : a ≤ b
    · rw [if_pos h]
      exact ⟨.refl _, by simp [h]⟩
    · rw [if_neg h]
      exact ⟨.swap _ _ _, by simp; omega⟩
  exact (cbn_sorted (K := K) (ns := [a, b]) (Nat.le_of_ble_eq_true rfl) h.1 h.2).d
section
variable {P : Program} {w : World} {K : PySem.W.Frag} {mg : Str → Option Value} {base : Heap} {f : Addr} {fd : FuncData}
abbrev p_sentences (K : PySem.W.Frag) : Sp := Pu K 0 (r0 fun Ψ => Ψ (.lst (sents.map stD)))
theorem d__law_sentences (B : Bi mg) (F : TopD K mg "_law_sentences" s__law_sentences [] f fd) : DefOk P w K mg base CX0 1 "_law_sentences" [] (p_sentences K) := by
  refine F.ok (F.fn.ok sc__law_sentences (fun _ _ _ _ => Pu.len) (fun cdv A outer s H vs Q E hr h => ⟨_, (pss_cons (ps_set (i := 0) sc__law_sentences.nd rfl (.inl rfl) (pe_lst pa_nil))
      (pss_cons (ps_for PassesOwn.never rfl (kSeq (K := K) rfl (pe_lst (pa_cons (pe_tup (pa_cons pe_int (pa_cons pe_int (pa_cons pe_int pa_nil)))) (pa_cons (pe_tup (pa_cons pe_int (pa_cons pe_int (pa_cons pe_int pa_nil)))) (pa_cons (pe_tup (pa_cons pe_int (pa_cons pe_int (pa_cons pe_int pa_nil)))) pa_nil))))) (kTup (K := K) (n := 3) rfl rfl (pgs_cons (pg_name (i := 1) sc__law_sentences.nd rfl (.inl rfl)) (pgs_cons (pg_name (i := 2) sc__law_sentences.nd rfl (.inl rfl)) (pgs_cons (pg_name (i := 3) sc__law_sentences.nd rfl (.inl rfl)) pgs_nil)))) (pss_cons (ps_expr (pe_bm PySem.F.plainAttrs_list PySem.F.slot_list_append PySem.F.type_list_append mt_append (pv 0) (pa_cons (pe_tup (pa_cons (pe_tup (pa_cons (pv 1) pa_nil)) (pa_cons (pe_t (kTuple (K := K) rfl) B.tuple (pa_cons (pe_b (kSorted (K := K) rfl) B.sorted (pa_cons (pe_lst (pa_cons (pv 1) (pa_cons (pv 2) pa_nil))) pa_nil)) pa_nil)) (pa_cons (pe_t (kTuple (K := K) rfl) B.tuple (pa_cons (pe_b (kSorted (K := K) rfl) B.sorted (pa_cons (pe_lst (pa_cons (pv 1) (pa_cons (pv 3) pa_nil))) pa_nil)) pa_nil)) pa_nil)))) pa_nil)))
      (pss_one (ps_expr (pe_bm PySem.F.plainAttrs_list PySem.F.slot_list_append PySem.F.type_list_append mt_append (pv 0) (pa_cons (pe_tup (pa_cons (pe_t (kTuple (K := K) rfl) B.tuple (pa_cons (pe_b (kSorted (K := K) rfl) B.sorted (pa_cons (pe_lst (pa_cons (pv 2) (pa_cons (pv 3) pa_nil))) pa_nil)) pa_nil)) (pa_cons (pe_tup (pa_cons (pv 2) pa_nil)) (pa_cons (pe_tup (pa_cons (pv 3) pa_nil)) pa_nil)))) pa_nil))))))
      (pss_one (ps_ret (pv 0))))),
    pu_start h (by decide) fun r ds Ψ hl hR => ?_⟩))
  try dsimp only [cxOf, Cx.nox]
  obtain rfl : ds = [] := List.length_eq_zero_iff.mp hl
  dsimp only [r0] at hR
  refine sv_seq (sv_asgN (en_lst ?_))
  repeat trivial
  refine sv_for (js := [1] ++ ([2] ++ ([3] ++ []))) (src_seq (EvN.ev (en_lst ?_)))
  repeat trivial
  refine ⟨_, .lst _, fun i Γ => ∃ x y z, Γ = [.l ((sents.take (2 * i)).map stD), x, y, z], ⟨_, _, _, rfl⟩, ?_, ?_⟩
  · rintro i Γ hi ⟨x, y, z, rfl⟩
    have c : i = 0 ∨ i = 1 ∨ i = 2 := by
      have : i < 3 := hi
      omega
    rcases c with rfl | rfl | rfl
    all_goals refine tg_tup (ds := [.int _, .int _, .int _]) rfl ?_
    all_goals repeat trivial
    all_goals refine sv_app rfl (ev_tup ?_)
    all_goals repeat trivial
    all_goals refine EvN.ev (en_lst ?_)
    all_goals repeat trivial
    all_goals refine ⟨_, cbd_sorted2, ?_⟩
    all_goals repeat trivial
    all_goals refine ⟨_, cbd_tupL (.inl rfl), ?_⟩
    all_goals repeat trivial
    all_goals refine EvN.ev (en_lst ?_)
    all_goals repeat trivial
    all_goals refine ⟨_, cbd_sorted2, ?_⟩
    all_goals repeat trivial
    all_goals refine ⟨_, cbd_tupL (.inl rfl), ?_⟩
    all_goals repeat trivial
    all_goals refine sv_app rfl (ev_tup ?_)
    all_goals repeat trivial
    all_goals refine EvN.ev (en_lst ?_)
    all_goals repeat trivial
    all_goals refine ⟨_, cbd_sorted2, ?_⟩
    all_goals repeat trivial
    all_goals refine ⟨_, cbd_tupL (.inl rfl), ?_⟩
    all_goals repeat trivial
    all_goals exact ⟨_, _, _, rfl⟩
  · rintro Γ ⟨x, y, z, rfl⟩
    refine sv_ret (ev_frz rfl ?_)
    exact hR
end
/-- an answer as the law makes it -/
structure An where
  lot : List Int
  lo : Int
  hi : Option Int
  isL : Bool
def anD (a : An) : Dt := .tup [dtQ a.isL a.lot, .int a.lo, oi a.hi]
def sixL : List (List Int) := [[0], [0, 1], [0, 2], [1], [1, 2], [2]]
def ksT : List (List Key) := sixL.map ikey
abbrev Tp := List Key → Option Int
def tFT (T : Tp) : List Key → Dt := fun k => oi (T k)
def updT (T : Tp) (x : List Key) (v : Option Int) : Tp := fun k => if k = x then v else T k
theorem tFT_set (T : Tp) (x : List Key) (v : Option Int) : gset (tFT T) x (oi v) = tFT (updT T x v) := by
  funext k
  unfold gset tFT updT
  by_cases h : k = x
  · rw [if_pos h, if_pos h]
  · rw [if_neg h, if_neg h]
def relT (T : Tp) (s : List Int × List Int × List Int) : Tp := updT T (ikey s.1) (lessO (T (ikey s.1)) (sumO (T (ikey s.2.1)) (T (ikey s.2.2))))
def turnT (T : Tp) : Tp := sents.foldl relT T
def initT (l : List An) : Tp := l.foldl (fun T a => updT T (ikey a.lot) a.hi) fun _ => none
def iterT : Nat → Tp → Tp
  | 0, T => T
  | n + 1, T => turnT (iterT n T)
def topsT (l : List An) : Tp := iterT 12 (initT l)
def possT (l : List An) : Bool := l.all fun a => match topsT l (ikey a.lot) with
  | none => true
  | some h => decide (a.lo ≤ h)
def okAns (l : List An) : Prop := l.length ≤ 1000 ∧ ∀ a ∈ l, a.lot ∈ sixL
theorem key_mem {x : List Int} (h : x ∈ sixL) : ikey x ∈ ksT := List.mem_map.mpr ⟨x, h, rfl⟩
theorem sent_mem : ∀ s ∈ sents, s.1 ∈ sixL ∧ s.2.1 ∈ sixL ∧ s.2.2 ∈ sixL := by decide
theorem upd_same' {T : Tp} {x : List Key} : updT T x (T x) = T := by
  funext k
  unfold updT
  by_cases h : k = x
  · rw [if_pos h, h]
  · rw [if_neg h]
theorem itemOf_map {α : Type} {g : α → Dt} {l : List α} {i : Nat} (h : i < l.length) : itemOf (l.map g) i = g l[i] := by
  unfold itemOf
  rw [List.getD_eq_getElem?_getD, List.getElem?_map, List.getElem?_eq_getElem h]
  rfl
/-- tuple(lot), lot a list or a tuple -/
theorem cbd_tupQ {K : PySem.W.Frag} {isL : Bool} {ns : List Int} : CbD K (fun xs H Q => ∃ p ys, xs = [.ref p] ∧ ((SqL K H p ys ∧ ∀ l, H l = none → Q (.ref l) (upd H l (.tup ys))) ∨ (SqT K H p ys ∧ Q (.ref p) H))) [dtQ isL ns] (.tup (ns.map .int)) := by
  cases isL with
  | true => exact cbd_tupL (.inl rfl)
  | false => exact cbd_tupT
section
variable {P : Program} {w : World} {K : PySem.W.Frag} {mg : Str → Option Value} {base : Heap} {f : Addr} {fd : FuncData}
abbrev p_lots_of (K : PySem.W.Frag) : Sp := Pu K 0 (r0 fun Ψ => Ψ (.lst (sixL.map (dtQ true))))
abbrev p_law_tops (K : PySem.W.Frag) : Sp := Pu K 1 (r1 fun a Ψ => ∃ l : List An, SeqD a (l.map anD) ∧ okAns l ∧ Ψ (.dt (gd ksT (tFT (topsT l)))))
theorem d__law_tops (B : Bi mg) (D__law_lots_of : DefOk P w K mg base CX0 1 "_law_lots_of" [] (p_lots_of K)) (D__law_sentences : DefOk P w K mg base CX0 1 "_law_sentences" [] (p_sentences K)) (F : TopD K mg "_law_tops" s__law_tops ["answers"] f fd) : DefOk P w K mg base CX0 2 "_law_tops" ["answers"] (p_law_tops K) := by
  refine F.ok (F.fn.ok sc__law_tops (fun _ _ _ _ => Pu.len) (fun cdv A outer s H vs Q E hr h => ⟨_, (pss_cons (ps_set (i := 1) sc__law_tops.nd rfl (.inl rfl) (pe_t (kDictT (K := K) rfl hr) B.dict (pa_cons (pe_lc (own := [("lot", 2)]) (g := (gName 2)) (tt := tYes) rfl sc__law_tops.nd (kSeq (K := K) rfl (pe_d0 D__law_lots_of hr pass0)) (blkOk_by (own := [("lot", 2)]) (N := ["answers", "tops_v", "lot", "low", "high", "turn", "x", "y", "z", "most"]) (sc := defScope s__law_tops) (by decide +kernel)) (fun _ _ _ _ _ => (pg_name (i := 2) sc__law_tops.nd rfl (.inl rfl))) (fun _ _ _ _ _ => pts_nil) (fun _ _ _ _ _ => (pe_tup (pa_cons (pe_t (kTuple (K := K) rfl) B.tuple (pa_cons (pv 2) pa_nil)) (pa_cons pe_non pa_nil))))) pa_nil)))
      (pss_cons (ps_for PassesOwn.never rfl (kSeq (K := K) rfl (pv 0)) (kTup (K := K) (n := 3) rfl rfl (pgs_cons (pg_name (i := 2) sc__law_tops.nd rfl (.inl rfl)) (pgs_cons (pg_name (i := 3) sc__law_tops.nd rfl (.inl rfl)) (pgs_cons (pg_name (i := 4) sc__law_tops.nd rfl (.inl rfl)) pgs_nil)))) (pss_one (ps_dput (hu_of hr) (pv 1) (pe_t (kTuple (K := K) rfl) B.tuple (pa_cons (pv 2) pa_nil)) (pv 4) rfl)))
      (pss_cons (ps_for PassesOwn.never rfl (pi_range1 (by rfl) B.range (pa_cons pe_int pa_nil)) (pg_name (i := 5) sc__law_tops.nd rfl (.inl rfl)) (pss_one (ps_for PassesOwn.never rfl (kSeq (K := K) rfl (pe_d0 D__law_sentences hr pass0)) (kTup (K := K) (n := 3) rfl rfl (pgs_cons (pg_name (i := 6) sc__law_tops.nd rfl (.inl rfl)) (pgs_cons (pg_name (i := 7) sc__law_tops.nd rfl (.inl rfl)) (pgs_cons (pg_name (i := 8) sc__law_tops.nd rfl (.inl rfl)) pgs_nil)))) (pss_one (ps_if (PW.pt (pw_and (pt_cmpR op_notN (pe_dget (hu_of hr) (pv 1) (pv 7) (fun _ _ => rfl)) pe_non (nomark _)) (pw_and1 (pt_cmpR op_notN (pe_dget (hu_of hr) (pv 1) (pv 8) (fun _ _ => rfl)) pe_non (nomark _))))) (pss_cons (ps_set (i := 9) sc__law_tops.nd rfl (.inl rfl) (pe_op op_add (pe_dget (hu_of hr) (pv 1) (pv 7) (fun _ _ => rfl)) (pe_dget (hu_of hr) (pv 1) (pv 8) (fun _ _ => rfl))))
      (pss_one (ps_dput (hu_of hr) (pv 1) (pv 6) (pe_ifExp (pt_cmpR op_isN (pe_dget (hu_of hr) (pv 1) (pv 6) (fun _ _ => rfl)) pe_non (nomark _)) (pv 9) (pe_b (call_min2 rfl) B.min (pa_cons (pe_dget (hu_of hr) (pv 1) (pv 6) (fun _ _ => rfl)) (pa_cons (pv 9) pa_nil)))) rfl))) pss_nil)))))
      (pss_one (ps_ret (pv 1)))))),
    pu_start h (by decide) fun r ds Ψ hl hR => ?_⟩))
  try dsimp only [cxOf, Cx.nox]
  obtain ⟨v, rfl⟩ := ds1 hl
  dsimp only [r1] at hR
  obtain ⟨l, q, ⟨hlen, hok⟩, hR⟩ := hR
  refine sv_seq (sv_asgDT (EvN.ev (en_lcF (js := [2]) (fun _ h => h) (src_seq (ev_call (ea_nil ⟨rfl, _, .lst _, ?_⟩))))))
  refine ⟨by decide, rfl, fun i => some ((fun x : Dt => Dt.tup [.tup x.items, .non]) (itemOf (sixL.map (dtQ true)) i)), fun i hi => ?_, ?_⟩
  · have hi' : i < sixL.length := by rw [List.length_map] at hi; exact hi
    rw [itemOf_map hi']
    repeat trivial
    refine ⟨_, cbd_tupQ, ?_⟩
    repeat trivial
    show some (Dt.tup [.tup (itemOf (sixL.map (dtQ true)) i).items, .non]) = _
    rw [itemOf_map hi']
    rfl
  · refine ⟨sixL.map fun x => (x, .non), ?_, by decide, by decide, Nat.le_of_ble_eq_true rfl, ?_⟩
    · rw [range_items' (fun x : Dt => Dt.tup [.tup x.items, .non])]
      rfl
    refine sv_seq (sv_for (js := [2] ++ ([3] ++ ([4] ++ []))) (src_seq (ev_var rfl ⟨_, q, ?_⟩)))
    refine ⟨fun i Γ => ∃ x y z, Γ = [.d v, .t (gd ksT (tFT (initT (l.take i)))), x, y, z, .any, .any, .any, .any, .any], ⟨_, _, _, rfl⟩, ?_, ?_⟩
    · rintro i Γ hi ⟨x, y, z, rfl⟩
      have hi' : i < l.length := by rw [List.length_map] at hi; exact hi
      rw [itemOf_map hi']
      have hk := key_mem (hok l[i] (List.getElem_mem hi'))
      have e : initT (l.take (i + 1)) = updT (initT (l.take i)) (ikey l[i].lot) l[i].hi := by
        rw [List.take_add_one, List.getElem?_eq_getElem hi', Option.toList_some]
        unfold initT
        rw [List.foldl_append]
        rfl
      refine tg_tup (ds := [dtQ l[i].isL l[i].lot, .int l[i].lo, oi l[i].hi]) rfl ?_
      repeat trivial
      refine sv_dputT ?_
      repeat trivial
      refine ⟨_, cbd_tupQ, ?_⟩
      refine ⟨_, l[i].lot, rfl, rfl, by rw [gd_len]; decide, .d (dtQ l[i].isL l[i].lot), .d (.int l[i].lo), .d (oi l[i].hi), ?_⟩
      rw [gd_put hk, tFT_set, e]
      rfl
    · rintro Γ ⟨x, y, z, rfl⟩
      rw [List.length_map, List.take_length]
      repeat trivial
      refine sv_for (js := [5]) (src_range ?_)
      repeat trivial
      refine ⟨by decide, by decide, fun i Γ => ∃ x2 x3 x4 x5 x6 x7 x8 x9, Γ = [.d v, .t (gd ksT (tFT (iterT i (initT l)))), x2, x3, x4, x5, x6, x7, x8, x9], ⟨_, _, _, _, _, _, _, _, rfl⟩, ?_, ?_⟩
      · rintro i Γ hi ⟨x2, x3, x4, x5, x6, x7, x8, x9, rfl⟩
        repeat trivial
        refine sv_for (js := [6] ++ ([7] ++ ([8] ++ []))) (src_seq ?_)
        repeat trivial
        refine ⟨_, .lst _, fun j Γ => ∃ x2 x3 x4 x5 x6 x7 x8 x9, Γ = [.d v, .t (gd ksT (tFT ((sents.take j).foldl relT (iterT i (initT l))))), x2, x3, x4, x5, x6, x7, x8, x9], ⟨_, _, _, _, _, _, _, _, rfl⟩, ?_, ?_⟩
        · rintro j Γ hj ⟨x2, x3, x4, x5, x6, x7, x8, x9, rfl⟩
          have hj' : j < sents.length := by rw [List.length_map] at hj; exact hj
          rw [itemOf_map hj']
          obtain ⟨m1, m2, m3⟩ := sent_mem sents[j] (List.getElem_mem hj')
          have e : (sents.take (j + 1)).foldl relT (iterT i (initT l)) = relT ((sents.take j).foldl relT (iterT i (initT l))) sents[j] := by
            rw [List.take_add_one, List.getElem?_eq_getElem hj', Option.toList_some, List.foldl_append]
            rfl
          dsimp only
          rw [e]
          generalize (sents.take j).foldl relT (iterT i (initT l)) = T
          generalize sents[j] = st at m1 m2 m3
          obtain ⟨a, b, c⟩ := st
          refine tg_tup (ds := [.tup (a.map .int), .tup (b.map .int), .tup (c.map .int)]) rfl ?_
          repeat trivial
          have dg : ∀ {m : Nat} {ns : List Int} {Γ : Env} {Φ : Dt → Env → Prop}, Γ[1]? = some (.t (gd ksT (tFT T))) → Γ[m]? = some (.d (.tup (ns.map .int))) → ns ∈ sixL → Φ (oi (T (ikey ns))) Γ → Ev (r.at K noW noX) (tDGet (tVar 1) (tVar m)) Γ Φ := fun {m ns Γ Φ} h1 h2 h3 h4 =>
            ev_dgetO (i := 1) h1 (ev_var h2 ⟨_, ns, _, h1, rfl, gd_look (key_mem h3), h4⟩)
          refine dg rfl rfl m2 ?_
          repeat trivial
          cases hb : T (ikey b) with
          | none =>
            repeat trivial
            have eT : relT T (a, b, c) = T := by
              unfold relT
              dsimp only
              rw [hb]
              have e1 : lessO (T (ikey a)) (sumO none (T (ikey c))) = T (ikey a) := by
                cases T (ikey a) <;> rfl
              rw [e1, upd_same']
            rw [eT]
            exact ⟨_, _, _, _, _, _, _, _, rfl⟩
          | some y =>
            repeat trivial
            refine dg rfl rfl m3 ?_
            repeat trivial
            cases hc : T (ikey c) with
            | none =>
              repeat trivial
              have eT : relT T (a, b, c) = T := by
                unfold relT
                dsimp only
                rw [hb, hc]
                have e1 : lessO (T (ikey a)) (sumO (some y) none) = T (ikey a) := by
                  cases T (ikey a) <;> rfl
                rw [e1, upd_same']
              rw [eT]
              exact ⟨_, _, _, _, _, _, _, _, rfl⟩
            | some z =>
              repeat trivial
              refine dg rfl rfl m2 ?_
              rw [hb]
              refine dg rfl rfl m3 ?_
              rw [hc]
              repeat trivial
              refine sv_dputT ?_
              repeat trivial
              refine dg rfl rfl m1 ?_
              repeat trivial
              have eT : relT T (a, b, c) = updT T (ikey a) (lessO (T (ikey a)) (some (y + z))) := by
                unfold relT
                dsimp only
                rw [hb, hc]
                rfl
              rw [eT]
              cases ha : T (ikey a) with
              | none =>
                repeat trivial
                refine ⟨_, a, rfl, rfl, by rw [gd_len]; decide, x2, x3, x4, x5, .d (.tup (a.map .int)), .d (.tup (b.map .int)), .d (.tup (c.map .int)), .d (.int (y + z)), ?_⟩
                have e2 := gd_put (f := tFT T) (d := oi (some (y + z))) (key_mem m1)
                rw [tFT_set] at e2
                show _ = _
                rw [show lessO none (some (y + z)) = some (y + z) from rfl, ← e2]
                rfl
              | some x1 =>
                repeat trivial
                refine dg rfl rfl m1 ?_
                rw [ha]
                repeat trivial
                refine ⟨_, cbd_min2, ?_⟩
                repeat trivial
                refine ⟨_, a, rfl, rfl, by rw [gd_len]; decide, x2, x3, x4, x5, .d (.tup (a.map .int)), .d (.tup (b.map .int)), .d (.tup (c.map .int)), .d (.int (y + z)), ?_⟩
                have e2 := gd_put (f := tFT T) (d := oi (some (min x1 (y + z)))) (key_mem m1)
                rw [tFT_set] at e2
                rw [show lessO (some x1) (some (y + z)) = some (min x1 (y + z)) from rfl, ← e2]
                rfl
        · rintro Γ ⟨x2, x3, x4, x5, x6, x7, x8, x9, rfl⟩
          exact ⟨x2, x3, x4, x5, x6, x7, x8, x9, rfl⟩
      · rintro Γ ⟨x2, x3, x4, x5, x6, x7, x8, x9, rfl⟩
        refine sv_ret (ev_frzT rfl ?_)
        exact hR
end
end Cp
/-! K81j: possible, put, between by own means -/
namespace Cp
open PySem PySem.Spec PyProof.Rows L2
local macro_rules | `(tactic| trivial) => `(tactic| with_reducible refine ea_nil ?_)
local macro_rules | `(tactic| trivial) => `(tactic| with_reducible refine ea_cons ?_)
local macro_rules | `(tactic| trivial) => `(tactic| with_reducible refine et_test ?_)
local macro_rules | `(tactic| trivial) => `(tactic| with_reducible refine et_yes ?_)
local macro_rules | `(tactic| trivial) => `(tactic| with_reducible refine et_B ?_)
local macro_rules | `(tactic| trivial) => `(tactic| with_reducible refine ev_lenS ?_)
local macro_rules | `(tactic| trivial) => `(tactic| with_reducible refine et_and ?_)
local macro_rules | `(tactic| trivial) => `(tactic| with_reducible refine et_or ?_)
local macro_rules | `(tactic| trivial) => `(tactic| with_reducible refine et_not ?_)
local macro_rules | `(tactic| trivial) => `(tactic| with_reducible refine ev_if ?_)
local macro_rules | `(tactic| trivial) => `(tactic| with_reducible refine ev_chain ?_)
local macro_rules | `(tactic| trivial) => `(tactic| with_reducible refine ev_and ?_)
local macro_rules | `(tactic| trivial) => `(tactic| with_reducible refine ev_or ?_)
local macro_rules | `(tactic| trivial) => `(tactic| with_reducible refine ev_not ?_)
local macro_rules | `(tactic| trivial) => `(tactic| with_reducible refine ev_op ?_)
local macro_rules | `(tactic| trivial) => `(tactic| with_reducible refine ev_cb ?_)
local macro_rules | `(tactic| trivial) => `(tactic| with_reducible refine ev_isi kit_int ?_)
local macro_rules | `(tactic| trivial) => `(tactic| with_reducible refine ev_isi kit_bool ?_)
local macro_rules | `(tactic| trivial) => `(tactic| with_reducible refine ev_isi kit_str ?_)
local macro_rules | `(tactic| trivial) => `(tactic| with_reducible refine ev_isi kit_list ?_)
local macro_rules | `(tactic| trivial) => `(tactic| with_reducible refine ev_isi kit_tuple ?_)
local macro_rules | `(tactic| trivial) => `(tactic| with_reducible refine ev_isi2 kit_list kit_tuple ?_)
local macro_rules | `(tactic| trivial) => `(tactic| with_reducible refine ev_call ?_)
local macro_rules | `(tactic| trivial) => `(tactic| with_reducible refine ev_tup ?_)
local macro_rules | `(tactic| trivial) => `(tactic| with_reducible refine ev_i ?_)
local macro_rules | `(tactic| trivial) => `(tactic| with_reducible refine ev_b ?_)
local macro_rules | `(tactic| trivial) => `(tactic| with_reducible refine ev_n ?_)
local macro_rules | `(tactic| trivial) => `(tactic| with_reducible refine ev_s ?_)
local macro_rules | `(tactic| trivial) => `(tactic| ((with_reducible apply ev_var); · exact rfl))
local macro_rules | `(tactic| trivial) => `(tactic| ((with_reducible apply ev_varV); (· exact rfl); (· assumption)))
local macro_rules | `(tactic| trivial) => `(tactic| with_reducible refine sv_ret ?_)
local macro_rules | `(tactic| trivial) => `(tactic| with_reducible refine sv_if ?_)
local macro_rules | `(tactic| trivial) => `(tactic| (with_reducible refine sv_nx ?_))
local macro_rules | `(tactic| trivial) => `(tactic| ((with_reducible apply le_and); · exact rfl))
local macro_rules | `(tactic| trivial) => `(tactic| ((with_reducible apply lt_and); · exact rfl))
local macro_rules | `(tactic| trivial) => `(tactic| ((with_reducible apply ex_and); · exact rfl))
local macro_rules | `(tactic| trivial) => `(tactic| (((with_reducible apply eq_and); · exact rfl); try dsimp only [r0, r1, r2, r3, r4, x1, x2]))
local macro_rules | `(tactic| trivial) => `(tactic| with_reducible refine ⟨_, opd_I0, ?_⟩)
local macro_rules | `(tactic| trivial) => `(tactic| with_reducible refine ⟨_, opd_B0, ?_⟩)
local macro_rules | `(tactic| trivial) => `(tactic| with_reducible refine ⟨_, opd_isN, ?_⟩)
local macro_rules | `(tactic| trivial) => `(tactic| with_reducible refine ⟨_, opd_notN, ?_⟩)
local macro_rules | `(tactic| trivial) => `(tactic| with_reducible refine ⟨_, opd_isB, ?_⟩)
local macro_rules | `(tactic| trivial) => `(tactic| with_reducible refine ⟨_, opd_eqI, ?_⟩)
local macro_rules | `(tactic| trivial) => `(tactic| with_reducible refine ⟨_, opd_neI, ?_⟩)
local macro_rules | `(tactic| trivial) => `(tactic| ((with_reducible apply ite_t); · exact rfl))
local macro_rules | `(tactic| trivial) => `(tactic| ((with_reducible apply ite_f); · exact rfl))
local macro_rules | `(tactic| trivial) => `(tactic| with_reducible refine sv_seq ?_)
local macro_rules | `(tactic| trivial) => `(tactic| with_reducible refine tgl_nil ?_)
local macro_rules | `(tactic| trivial) => `(tactic| with_reducible apply tgl_cons)
local macro_rules | `(tactic| trivial) => `(tactic| ((with_reducible apply tg_tup); · exact rfl))
local macro_rules | `(tactic| trivial) => `(tactic| ((with_reducible apply tg_sqt); · exact rfl))
local macro_rules | `(tactic| trivial) => `(tactic| ((with_reducible refine tg_name ?_ ?_); · exact Nat.le_of_ble_eq_true rfl))
local macro_rules | `(tactic| trivial) => `(tactic| with_reducible refine sv_drop (te := tCallS _ _ _) ?_)
local macro_rules | `(tactic| trivial) => `(tactic| with_reducible refine sv_asg (te := tOp _ _ _) ?_)
local macro_rules | `(tactic| trivial) => `(tactic| with_reducible refine sv_asg (te := tCall _ _ _ _) ?_)
local macro_rules | `(tactic| trivial) => `(tactic| with_reducible refine sv_asg (te := tCallS _ _ _) ?_)
local macro_rules | `(tactic| trivial) => `(tactic| with_reducible refine sv_asg (te := tIf _ _ _) ?_)
local macro_rules | `(tactic| trivial) => `(tactic| with_reducible refine sv_asg (te := tVar _) ?_)
local macro_rules | `(tactic| trivial) => `(tactic| with_reducible refine sv_asg (te := tC _) ?_)
local macro_rules | `(tactic| trivial) => `(tactic| with_reducible refine sv_asg (te := tTup _) ?_)
local macro_rules | `(tactic| trivial) => `(tactic| with_reducible refine sv_asg (te := tAndV _ _) ?_)
local macro_rules | `(tactic| trivial) => `(tactic| with_reducible refine sv_asg (te := tOrV _ _) ?_)
local macro_rules | `(tactic| trivial) => `(tactic| with_reducible refine sv_asg (te := tNotV _) ?_)
local macro_rules | `(tactic| trivial) => `(tactic| with_reducible refine sv_asg (te := tDGet _ _) ?_)
local macro_rules | `(tactic| trivial) => `(tactic| with_reducible refine sv_asg (te := tUn _ _) ?_)
local macro_rules | `(tactic| trivial) => `(tactic| with_reducible apply sv_asgTp)
local macro_rules | `(tactic| trivial) => `(tactic| ((with_reducible apply ev_box0); · exact rfl))
local macro_rules | `(tactic| trivial) => `(tactic| ((with_reducible apply ev_box1); · exact rfl))
local macro_rules | `(tactic| trivial) => `(tactic| ((with_reducible apply ev_box2); · exact rfl))
local macro_rules | `(tactic| trivial) => `(tactic| ((with_reducible apply ev_box3); · exact rfl))
local macro_rules | `(tactic| trivial) => `(tactic| with_reducible apply sv_asgLp)
local macro_rules | `(tactic| trivial) => `(tactic| ((with_reducible apply tg_lst); · exact rfl))
abbrev s__law_possible : Stmt := topS 48
theorem sc__law_possible : FnScope ["answers", "tops_v", "lot", "low", "high"] ["answers"] (defScope s__law_possible) := ⟨rfl, rfl, rfl, by decide +kernel, rfl, by decide +kernel, by decide +kernel⟩
abbrev s__law_put : Stmt := topS 49
theorem sc__law_put : FnScope ["answers", "lot", "low", "high", "found", "some", "least", "most"] ["answers", "lot", "low", "high"] (defScope s__law_put) := ⟨rfl, rfl, rfl, by decide +kernel, rfl, by decide +kernel, by decide +kernel⟩
def badT (T : Tp) (a : An) : Bool := match T (ikey a.lot) with
  | none => false
  | some h => decide (h < a.lo)
theorem dtQ_lay (isL : Bool) (ns : List Int) : (dtQ isL ns).lay 1 = true := by
  have e : (ns.map Dt.int).all (Dt.lay 0) = true := by
    rw [List.all_map]
    exact List.all_eq_true.mpr fun x _ => rfl
  cases isL with
  | true => exact e
  | false => exact e
def bdF (T : Tp) (a : An) : Option Dt := if badT T a = true then some (dtQ a.isL a.lot) else none
theorem poss_empty (T : Tp) (l : List An) : (l.filterMap (bdF T)).isEmpty = l.all fun a => match T (ikey a.lot) with
    | none => true
    | some h => decide (a.lo ≤ h) := by
  have key : ∀ a : An, (match T (ikey a.lot) with
    | none => true
    | some h => decide (a.lo ≤ h)) = !badT T a := fun a => by
    unfold badT
    cases T (ikey a.lot) with
    | none => rfl
    | some h =>
      show decide (a.lo ≤ h) = !decide (h < a.lo)
      by_cases c : h < a.lo
      · rw [decide_eq_true c, decide_eq_false (by omega)]
        rfl
      · rw [decide_eq_false c, decide_eq_true (by omega)]
        rfl
  induction l with
  | nil => rfl
  | cons a l ih =>
    rw [List.all_cons, ← ih, key a]
    cases hb : badT T a with
    | true =>
      have e : bdF T a = some (dtQ a.isL a.lot) := if_pos hb
      rw [List.filterMap_cons_some e]
      rfl
    | false =>
      have e : bdF T a = none := if_neg (by rw [hb]; exact Bool.false_ne_true)
      rw [List.filterMap_cons_none e]
      rfl
section
variable {P : Program} {w : World} {K : PySem.W.Frag} {mg : Str → Option Value} {base : Heap} {f : Addr} {fd : FuncData}
abbrev p_law_possible (K : PySem.W.Frag) : Sp := Pu K 1 (r1 fun a Ψ => ∃ l : List An, SeqD a (l.map anD) ∧ okAns l ∧ Ψ (.bl (possT l)))
theorem d__law_possible (B : Bi mg) (D__law_tops : DefOk P w K mg base CX0 2 "_law_tops" ["answers"] (p_law_tops K)) (F : TopD K mg "_law_possible" s__law_possible ["answers"] f fd) : DefOk P w K mg base CX0 3 "_law_possible" ["answers"] (p_law_possible K) := by
  refine F.ok (F.fn.ok sc__law_possible (fun _ _ _ _ => Pu.len) (fun cdv A outer s H vs Q E hr h => ⟨_, (pss_cons (ps_set (i := 1) sc__law_possible.nd rfl (.inr rfl) (pe_d D__law_tops hr pass0 (pa_cons (pv 0) pa_nil)))
      (pss_one (ps_ret (pe_cmpR (kEqD (K := K) rfl hr) (pe_lc (own := [("lot", 2), ("low", 3), ("high", 4)]) (g := (gTup K 3 (gCons (gName 2) (gCons (gName 3) (gCons (gName 4) gNil))))) (tt := _) rfl sc__law_possible.nd (kSeq (K := K) rfl (pv 0)) (blkOk_by (own := [("lot", 2), ("low", 3), ("high", 4)]) (N := ["answers", "tops_v", "lot", "low", "high"]) (sc := defScope s__law_possible) (by decide +kernel)) (fun _ _ _ _ _ => (kTup (K := K) (n := 3) rfl rfl (pgs_cons (pg_name (i := 2) sc__law_possible.nd rfl (.inl rfl)) (pgs_cons (pg_name (i := 3) sc__law_possible.nd rfl (.inl rfl)) (pgs_cons (pg_name (i := 4) sc__law_possible.nd rfl (.inl rfl)) pgs_nil))))) (fun _ _ _ _ _ => (pts_one (PW.pt (pw_and (pt_cmpR op_notN (pe_dget (hu_of hr) (pv 1) (pe_t (kTuple (K := K) rfl) B.tuple (pa_cons (pv 2) pa_nil)) (fun _ _ => rfl)) pe_non (nomark _)) (pw_and1 (pt_cmpR op_gt (pv 3) (pe_dget (hu_of hr) (pv 1) (pe_t (kTuple (K := K) rfl) B.tuple (pa_cons (pv 2) pa_nil)) (fun _ _ => rfl)) (nomark _))))))) (fun _ _ _ _ _ => (pv 2))) (pe_lst pa_nil) (nomark _))))),
    pu_start h (by decide) fun r ds Ψ hl hR => ?_⟩))
  try dsimp only [cxOf, Cx.nox]
  obtain ⟨v, rfl⟩ := ds1 hl
  dsimp only [r1] at hR
  obtain ⟨l, q, ⟨hlen, hok⟩, hR⟩ := hR
  repeat trivial
  refine ⟨l, q, ⟨hlen, hok⟩, ?_⟩
  repeat trivial
  refine EvN.ev (en_lcF (js := [2] ++ ([3] ++ ([4] ++ []))) (fun _ h => h) (src_seq ?_))
  repeat trivial
  refine ⟨_, q, by rw [List.length_map]; omega, rfl, fun i => bdF (topsT l) (l.getD i ⟨[], 0, none, true⟩), fun i hi => ?_, ?_⟩
  · have hi' : i < l.length := by rw [List.length_map] at hi; exact hi
    rw [itemOf_map hi']
    have hk := key_mem (hok l[i] (List.getElem_mem hi'))
    have eg : l.getD i ⟨[], 0, none, true⟩ = l[i] := by
      rw [List.getD_eq_getElem?_getD, List.getElem?_eq_getElem hi']
      rfl
    dsimp only
    rw [eg]
    generalize l[i] = a at hk
    refine tg_tup (ds := [dtQ a.isL a.lot, .int a.lo, oi a.hi]) rfl ?_
    repeat trivial
    refine ev_dgetT ?_
    repeat trivial
    refine ⟨_, cbd_tupQ, _, a.lot, _, rfl, rfl, gd_look hk, ?_⟩
    repeat trivial
    cases ht : topsT l (ikey a.lot) with
    | none =>
      have eb : bdF (topsT l) a = none := if_neg (by unfold badT; rw [ht]; exact Bool.false_ne_true)
      have et : tFT (topsT l) (ikey a.lot) = .non := by
        unfold tFT
        rw [ht]
        rfl
      refine ite_f (by rw [et]; rfl) ?_
      exact ite_f rfl ⟨rfl, eb⟩
    | some h =>
      have eb : badT (topsT l) a = decide (h < a.lo) := by
        unfold badT
        rw [ht]
      have et : tFT (topsT l) (ikey a.lot) = .int h := by
        unfold tFT
        rw [ht]
        rfl
      refine ite_t (by rw [et]; rfl) ?_
      repeat trivial
      refine ev_dgetT ?_
      repeat trivial
      refine ⟨_, cbd_tupQ, _, a.lot, _, rfl, rfl, gd_look hk, ?_⟩
      show ∃ d, OpD K _ (.int a.lo) (oi (topsT l (ikey a.lot))) d ∧ _
      rw [ht]
      refine ⟨_, opd_B0, _, rfl, ?_⟩
      cases hd : decide (h < a.lo) with
      | true =>
        refine ite_t rfl ?_
        repeat trivial
        exact if_pos (by rw [eb, hd])
      | false => exact ite_f rfl ⟨rfl, if_neg (by rw [eb, hd]; exact Bool.false_ne_true)⟩
  · have e : (List.range (l.map anD).length).filterMap (fun i => bdF (topsT l) (l.getD i ⟨[], 0, none, true⟩)) = l.filterMap (bdF (topsT l)) := by
      rw [List.length_map]
      have e1 : (List.range l.length).map (fun i => l.getD i ⟨[], 0, none, true⟩) = l := by
        refine List.ext_getElem? fun i => ?_
        rw [List.getElem?_map]
        by_cases h : i < l.length
        · rw [List.getElem?_range h, Option.map_some, List.getD_eq_getElem?_getD, List.getElem?_eq_getElem h]
          rfl
        · rw [List.getElem?_eq_none (by rw [List.length_range]; omega), List.getElem?_eq_none (by omega)]
          rfl
      have e2 := congrArg (fun z => z.filterMap (bdF (topsT l))) e1
      rw [← e2, List.filterMap_map]
      rfl
    rw [e]
    refine EvN.ev (en_lst ?_)
    repeat trivial
    refine ⟨_, opd_eqL 2 (List.all_eq_true.mpr fun d hd => ?_) rfl, ?_⟩
    · obtain ⟨a, _, ha⟩ := List.mem_filterMap.mp hd
      unfold bdF at ha
      by_cases c : badT (topsT l) a = true
      · rw [if_pos c] at ha
        cases ha
        exact dtQ_lay _ _
      · rw [if_neg c] at ha
        cases ha
    · rw [eqv_nil, poss_empty]
      exact hR
end
structure PutS where
  found : List An
  lo : Int
  hi : Option Int
def putStep (n : List Int) (s : PutS) (a : An) : PutS := if a.lot = n then ⟨s.found, max s.lo a.lo, lessO s.hi a.hi⟩ else ⟨s.found ++ [a], s.lo, s.hi⟩
def putL (l : List An) (n : List Int) (x : Int) (y : Option Int) : PutS := l.foldl (putStep n) ⟨[], x, y⟩
def fitO (x : Int) : Option Int → Bool
  | none => true
  | some h => decide (x ≤ h)
def putM (l : List An) (n : List Int) (x : Int) (y : Option Int) : Option (List An) := if fitO (putL l n x y).lo (putL l n x y).hi = true then some ((putL l n x y).found ++ [⟨n, (putL l n x y).lo, (putL l n x y).hi, true⟩]) else none
theorem seqQ (isL : Bool) (ns : List Int) : SeqD (dtQ isL ns) (ns.map .int) := by
  cases isL with
  | true => exact .lst _
  | false => exact .tup _
theorem eqv_ints : ∀ (a b : List Int), PyData.eqvAll (Dt.pys (a.map .int)) (Dt.pys (b.map .int)) = decide (a = b)
  | [], [] => by
    show PyData.eqvAll [] [] = _
    simp only [PyData.eqvAll]
    rfl
  | [], y :: b => by
    show PyData.eqvAll [] (_ :: _) = _
    simp only [PyData.eqvAll]
    rfl
  | x :: a, [] => by
    show PyData.eqvAll (_ :: _) [] = _
    simp only [PyData.eqvAll]
    rfl
  | x :: a, y :: b => by
    show PyData.eqvAll (PyData.int x :: Dt.pys (a.map .int)) (PyData.int y :: Dt.pys (b.map .int)) = _
    simp only [PyData.eqvAll, PyData.eqv]
    rw [eqv_ints a b]
    by_cases h : x = y
    · subst h
      by_cases h2 : a = b
      · subst h2
        simp
      · simp [h2]
    · simp [h]
theorem eqv_lists (a b : List Int) : PyData.eqv (Dt.py (.lst (a.map .int))) (Dt.py (.lst (b.map .int))) = decide (a = b) := by
  show PyData.eqv (.list _) (.list _) = _
  simp only [PyData.eqv]
  exact eqv_ints a b
section
variable {P : Program} {w : World} {K : PySem.W.Frag} {mg : Str → Option Value} {base : Heap} {f : Addr} {fd : FuncData}
abbrev p_put (K : PySem.W.Frag) : Sp := Pu K 4 (r4 fun a b c d Ψ => ∃ (l : List An) (n : List Int) (x : Int) (y : Option Int), SeqD a (l.map anD) ∧ SeqD b (n.map .int) ∧ c = .int x ∧ d = oi y ∧ l.length ≤ 1000 ∧ n.length ≤ 1000 ∧ (∀ l', putM l n x y = some l' → Ψ (.lst (l'.map anD))) ∧ (putM l n x y = none → Ψ .non))
theorem d__law_put (B : Bi mg) (F : TopD K mg "_law_put" s__law_put ["answers", "lot", "low", "high"] f fd) : DefOk P w K mg base CX0 1 "_law_put" ["answers", "lot", "low", "high"] (p_put K) := by
  refine F.ok (F.fn.ok sc__law_put (fun _ _ _ _ => Pu.len) (fun cdv A outer s H vs Q E hr h => ⟨_, (pss_cons (ps_set (i := 4) sc__law_put.nd rfl (.inl rfl) (pe_lst pa_nil))
      (pss_cons (ps_for PassesOwn.never rfl (kSeq (K := K) rfl (pv 0)) (kTup (K := K) (n := 3) rfl rfl (pgs_cons (pg_name (i := 5) sc__law_put.nd rfl (.inl rfl)) (pgs_cons (pg_name (i := 6) sc__law_put.nd rfl (.inl rfl)) (pgs_cons (pg_name (i := 7) sc__law_put.nd rfl (.inl rfl)) pgs_nil)))) (pss_one (ps_if (pt_cmpR (kEqD (K := K) rfl hr) (pe_t (kList (K := K) rfl) B.list (pa_cons (pv 5) pa_nil)) (pe_t (kList (K := K) rfl) B.list (pa_cons (pv 1) pa_nil)) (nomark _)) (pss_cons (ps_set (i := 2) sc__law_put.nd rfl (.inl rfl) (pe_b (call_max2 rfl) B.max (pa_cons (pv 2) (pa_cons (pv 6) pa_nil))))
      (pss_one (ps_set (i := 3) sc__law_put.nd rfl (.inl rfl) (pe_ifExp (pt_cmpR op_isN (pv 3) pe_non (nomark _)) (pv 7) (pe_ifExp (pt_cmpR op_isN (pv 7) pe_non (nomark _)) (pv 3) (pe_b (call_min2 rfl) B.min (pa_cons (pv 3) (pa_cons (pv 7) pa_nil)))))))) (pss_one (ps_expr (pe_bm PySem.F.plainAttrs_list PySem.F.slot_list_append PySem.F.type_list_append mt_append (pv 4) (pa_cons (pe_tup (pa_cons (pv 5) (pa_cons (pv 6) (pa_cons (pv 7) pa_nil)))) pa_nil)))))))
      (pss_one (ps_ret (pe_ifExp (PW.pt (pw_or (pt_cmpR op_isN (pv 3) pe_non (nomark _)) (pw_or1 (pt_cmpR op_le (pv 2) (pv 3) (nomark _))))) (pe_op op_cat (pv 4) (pe_lst (pa_cons (pe_tup (pa_cons (pe_t (kList (K := K) rfl) B.list (pa_cons (pv 1) pa_nil)) (pa_cons (pv 2) (pa_cons (pv 3) pa_nil)))) pa_nil))) pe_non))))),
    pu_start h (by decide) fun r ds Ψ hl hR => ?_⟩))
  try dsimp only [cxOf, Cx.nox]
  obtain ⟨v1, v2, v3, v4, rfl⟩ := ds4 hl
  dsimp only [r4] at hR
  obtain ⟨l, n, x, y, q1, q2, rfl, rfl, hlen, hn, hR1, hR2⟩ := hR
  refine sv_seq (sv_asgN (en_lst ?_))
  repeat trivial
  refine sv_for (js := [5] ++ ([6] ++ ([7] ++ []))) (src_seq (ev_var rfl ⟨_, q1, ?_⟩))
  refine ⟨fun i Γ => ∃ x5 x6 x7, Γ = [.d v1, .d v2, .d (.int (putL (l.take i) n x y).lo), .d (oi (putL (l.take i) n x y).hi), .l ((putL (l.take i) n x y).found.map anD), x5, x6, x7] ∧ (putL (l.take i) n x y).found.length ≤ i, ⟨.any, .any, .any, rfl, Nat.le_refl _⟩, ?_, ?_⟩
  · rintro i Γ hi ⟨x5, x6, x7, rfl, hf⟩
    have hi' : i < l.length := by rw [List.length_map] at hi; exact hi
    rw [itemOf_map hi']
    have e : putL (l.take (i + 1)) n x y = putStep n (putL (l.take i) n x y) l[i] := by
      rw [List.take_add_one, List.getElem?_eq_getElem hi', Option.toList_some]
      unfold putL
      rw [List.foldl_append]
      rfl
    dsimp only
    rw [e]
    generalize putL (l.take i) n x y = s at hf
    generalize l[i] = a
    obtain ⟨fo, lo, hi2⟩ := s
    refine tg_tup (ds := [dtQ a.isL a.lot, .int a.lo, oi a.hi]) rfl ?_
    repeat trivial
    refine ⟨_, (cbn_list (seqQ a.isL a.lot)).d, ?_⟩
    repeat trivial
    refine ⟨_, (cbn_list q2).d, ?_⟩
    repeat trivial
    refine ⟨_, opd_eqL 1 (dtQ_lay true a.lot) (dtQ_lay true n), _, rfl, ?_⟩
    rw [eqv_lists]
    cases hc : decide (a.lot = n) with
    | true =>
      have ep : putStep n ⟨fo, lo, hi2⟩ a = ⟨fo, max lo a.lo, lessO hi2 a.hi⟩ := if_pos (of_decide_eq_true hc)
      rw [ep]
      repeat trivial
      refine sv_asg ?_
      repeat trivial
      refine ⟨_, cbd_max2, ?_⟩
      repeat trivial
      cases hi2 with
      | none =>
        repeat trivial
        exact ⟨.d (dtQ a.isL a.lot), .d (.int a.lo), .d (oi a.hi), rfl, Nat.le_succ_of_le hf⟩
      | some h =>
        repeat trivial
        cases ha : a.hi with
        | none =>
          repeat trivial
          exact ⟨.d (dtQ a.isL a.lot), .d (.int a.lo), .d (oi none), rfl, Nat.le_succ_of_le hf⟩
        | some k =>
          repeat trivial
          refine ⟨_, cbd_min2, ?_⟩
          repeat trivial
          exact ⟨.d (dtQ a.isL a.lot), .d (.int a.lo), .d (oi (some k)), rfl, Nat.le_succ_of_le hf⟩
    | false =>
      have ep : putStep n ⟨fo, lo, hi2⟩ a = ⟨fo ++ [a], lo, hi2⟩ := if_neg (of_decide_eq_false hc)
      rw [ep]
      refine ite_f rfl (sv_app rfl (ev_tup ?_))
      repeat trivial
      refine ⟨by rw [List.length_map]; omega, .d (dtQ a.isL a.lot), .d (.int a.lo), .d (oi a.hi), by rw [List.map_append]; rfl, by rw [List.length_append]; exact Nat.succ_le_succ hf⟩
  · rintro Γ ⟨x5, x6, x7, rfl, hf⟩
    rw [List.length_map, List.take_length] at hf ⊢
    have ef : ∀ b : Bool, fitO (putL l n x y).lo (putL l n x y).hi = b → putM l n x y = if b = true then some ((putL l n x y).found ++ [⟨n, (putL l n x y).lo, (putL l n x y).hi, true⟩]) else none := fun b e => by
      unfold putM
      rw [e]
    generalize putL l n x y = s at ef hf
    obtain ⟨fo, lo, hi⟩ := s
    dsimp only at hf
    have done : ∀ Γ0 : Env, putM l n x y = some (fo ++ [⟨n, lo, hi, true⟩]) → Γ0 = [.d v1, .d v2, .d (.int lo), .d (oi hi), .l (fo.map anD), x5, x6, x7] → Ev (r.at K noW noX) (tVar 4) Γ0 fun d1 Γ1 => Ev (r.at K noW noX) (tLst (tCons (tTup (tCons (tCB (fun xs H Q => ∃ p ys, xs = [.ref p] ∧ (SqL K H p ys ∨ SqT K H p ys) ∧ ∀ l, H l = none → Q (.ref l) (upd H l (.lst ys))) (tCons (tVar 1) tNil)) (tCons (tVar 2) (tCons (tVar 3) tNil)))) tNil)) Γ1 fun d2 Γ2 => ∃ d, OpD K rCat d1 d2 d ∧ Ψ d := fun Γ0 e1 e2 => by
      subst e2
      have hR := hR1 _ e1
      refine ev_frz rfl (EvN.ev (en_lst ?_))
      repeat trivial
      refine ⟨_, (cbn_list q2).d, ?_⟩
      repeat trivial
      refine ⟨_, opd_cat (by rw [List.length_map]; show fo.length + 1 ≤ 100000; omega), ?_⟩
      rw [List.map_append] at hR
      exact hR
    repeat trivial
    cases hi with
    | none =>
      repeat trivial
      exact done _ (ef true rfl) rfl
    | some h =>
      repeat trivial
      cases hc : decide (lo ≤ h) with
      | true =>
        refine ite_t rfl (ev_op ?_)
        exact done _ (ef true hc) rfl
      | false =>
        refine ite_f rfl ?_
        repeat trivial
        exact hR2 (ef false hc)
end
/-- one halving -/
def halfS (l : List An) (n : List Int) (s : Int × Int) : Int × Int := if s.1 < s.2 then
    (match putM l n 0 (some ((s.1 + s.2) / 2)) with
      | some l' => if possT l' = true then (s.1, (s.1 + s.2) / 2) else ((s.1 + s.2) / 2 + 1, s.2)
      | none => ((s.1 + s.2) / 2 + 1, s.2))
  else s
def iterS {α : Type} (f : α → α) : Nat → α → α
  | 0, s => s
  | n + 1, s => f (iterS f n s)
def halv (l : List An) (n : List Int) : Int × Int := iterS (halfS l n) 200 (0, maxL (0 :: l.map (·.lo)))
def nonneg (l : List An) : Prop := ∀ a ∈ l, 0 ≤ a.lo
theorem putM_ok {l l' : List An} {n : List Int} {x : Int} {y : Option Int} (h : putM l n x y = some l') (hl : l.length ≤ 900) (ho : ∀ a ∈ l, a.lot ∈ sixL) (hn : n ∈ sixL) : okAns l' := by
  have key : ∀ (l : List An) (s : PutS), (∀ a ∈ l, a.lot ∈ sixL) → (∀ a ∈ s.found, a.lot ∈ sixL) → (l.foldl (putStep n) s).found.length ≤ s.found.length + l.length ∧ ∀ a ∈ (l.foldl (putStep n) s).found, a.lot ∈ sixL := by
    intro l
    induction l with
    | nil => exact fun s _ h => ⟨Nat.le_refl _, h⟩
    | cons a l ih =>
      intro s h1 h2
      rw [List.foldl_cons]
      have hs : (putStep n s a).found.length ≤ s.found.length + 1 ∧ ∀ b ∈ (putStep n s a).found, b.lot ∈ sixL := by
        unfold putStep
        by_cases c : a.lot = n
        · rw [if_pos c]
          exact ⟨Nat.le_succ _, h2⟩
        · rw [if_neg c]
          refine ⟨by show (s.found ++ [a]).length ≤ _; rw [List.length_append]; exact Nat.le_refl _, fun b hb => ?_⟩
          rcases List.mem_append.mp hb with z | z
          · exact h2 b z
          · rw [List.mem_singleton.mp z]
            exact h1 a List.mem_cons_self
      obtain ⟨g1, g2⟩ := ih (putStep n s a) (fun b hb => h1 b (List.mem_cons_of_mem _ hb)) hs.2
      refine ⟨?_, g2⟩
      rw [List.length_cons]
      omega
  obtain ⟨g1, g2⟩ := key l ⟨[], x, y⟩ ho fun a ha => nomatch ha
  unfold putM at h
  by_cases c : fitO (putL l n x y).lo (putL l n x y).hi = true
  · rw [if_pos c] at h
    cases h
    refine ⟨?_, fun a ha => ?_⟩
    · rw [List.length_append]
      have e : (putL l n x y).found.length ≤ 0 + l.length := g1
      show (putL l n x y).found.length + 1 ≤ 1000
      omega
    · rcases List.mem_append.mp ha with z | z
      · exact g2 a z
      · rw [List.mem_singleton.mp z]
        exact hn
  · rw [if_neg c] at h
    cases h
end Cp
/-! K81k: between by own halving -/
namespace Cp
open PySem PySem.Spec PyProof.Rows L2
local macro_rules | `(tactic| trivial) => `(tactic| with_reducible refine ea_nil ?_)
local macro_rules | `(tactic| trivial) => `(tactic| with_reducible refine ea_cons ?_)
local macro_rules | `(tactic| trivial) => `(tactic| with_reducible refine et_test ?_)
local macro_rules | `(tactic| trivial) => `(tactic| with_reducible refine et_yes ?_)
local macro_rules | `(tactic| trivial) => `(tactic| with_reducible refine et_B ?_)
local macro_rules | `(tactic| trivial) => `(tactic| with_reducible refine ev_lenS ?_)
local macro_rules | `(tactic| trivial) => `(tactic| with_reducible refine et_and ?_)
local macro_rules | `(tactic| trivial) => `(tactic| with_reducible refine et_or ?_)
local macro_rules | `(tactic| trivial) => `(tactic| with_reducible refine et_not ?_)
local macro_rules | `(tactic| trivial) => `(tactic| with_reducible refine ev_if ?_)
local macro_rules | `(tactic| trivial) => `(tactic| with_reducible refine ev_chain ?_)
local macro_rules | `(tactic| trivial) => `(tactic| with_reducible refine ev_and ?_)
local macro_rules | `(tactic| trivial) => `(tactic| with_reducible refine ev_or ?_)
local macro_rules | `(tactic| trivial) => `(tactic| with_reducible refine ev_not ?_)
local macro_rules | `(tactic| trivial) => `(tactic| with_reducible refine ev_op ?_)
local macro_rules | `(tactic| trivial) => `(tactic| with_reducible refine ev_cb ?_)
local macro_rules | `(tactic| trivial) => `(tactic| with_reducible refine ev_isi kit_int ?_)
local macro_rules | `(tactic| trivial) => `(tactic| with_reducible refine ev_isi kit_bool ?_)
local macro_rules | `(tactic| trivial) => `(tactic| with_reducible refine ev_isi kit_str ?_)
local macro_rules | `(tactic| trivial) => `(tactic| with_reducible refine ev_isi kit_list ?_)
local macro_rules | `(tactic| trivial) => `(tactic| with_reducible refine ev_isi kit_tuple ?_)
local macro_rules | `(tactic| trivial) => `(tactic| with_reducible refine ev_isi2 kit_list kit_tuple ?_)
local macro_rules | `(tactic| trivial) => `(tactic| with_reducible refine ev_call ?_)
local macro_rules | `(tactic| trivial) => `(tactic| with_reducible refine ev_tup ?_)
local macro_rules | `(tactic| trivial) => `(tactic| with_reducible refine ev_i ?_)
local macro_rules | `(tactic| trivial) => `(tactic| with_reducible refine ev_b ?_)
local macro_rules | `(tactic| trivial) => `(tactic| with_reducible refine ev_n ?_)
local macro_rules | `(tactic| trivial) => `(tactic| with_reducible refine ev_s ?_)
local macro_rules | `(tactic| trivial) => `(tactic| ((with_reducible apply ev_var); · exact rfl))
local macro_rules | `(tactic| trivial) => `(tactic| ((with_reducible apply ev_varV); (· exact rfl); (· assumption)))
local macro_rules | `(tactic| trivial) => `(tactic| with_reducible refine sv_ret ?_)
local macro_rules | `(tactic| trivial) => `(tactic| with_reducible refine sv_if ?_)
local macro_rules | `(tactic| trivial) => `(tactic| (with_reducible refine sv_nx ?_))
local macro_rules | `(tactic| trivial) => `(tactic| ((with_reducible apply le_and); · exact rfl))
local macro_rules | `(tactic| trivial) => `(tactic| ((with_reducible apply lt_and); · exact rfl))
local macro_rules | `(tactic| trivial) => `(tactic| ((with_reducible apply ex_and); · exact rfl))
local macro_rules | `(tactic| trivial) => `(tactic| (((with_reducible apply eq_and); · exact rfl); try dsimp only [r0, r1, r2, r3, r4, x1, x2]))
local macro_rules | `(tactic| trivial) => `(tactic| with_reducible refine ⟨_, opd_I0, ?_⟩)
local macro_rules | `(tactic| trivial) => `(tactic| with_reducible refine ⟨_, opd_B0, ?_⟩)
local macro_rules | `(tactic| trivial) => `(tactic| with_reducible refine ⟨_, opd_isN, ?_⟩)
local macro_rules | `(tactic| trivial) => `(tactic| with_reducible refine ⟨_, opd_notN, ?_⟩)
local macro_rules | `(tactic| trivial) => `(tactic| with_reducible refine ⟨_, opd_isB, ?_⟩)
local macro_rules | `(tactic| trivial) => `(tactic| with_reducible refine ⟨_, opd_eqI, ?_⟩)
local macro_rules | `(tactic| trivial) => `(tactic| with_reducible refine ⟨_, opd_neI, ?_⟩)
local macro_rules | `(tactic| trivial) => `(tactic| ((with_reducible apply ite_t); · exact rfl))
local macro_rules | `(tactic| trivial) => `(tactic| ((with_reducible apply ite_f); · exact rfl))
local macro_rules | `(tactic| trivial) => `(tactic| with_reducible refine sv_seq ?_)
local macro_rules | `(tactic| trivial) => `(tactic| with_reducible refine tgl_nil ?_)
local macro_rules | `(tactic| trivial) => `(tactic| with_reducible apply tgl_cons)
local macro_rules | `(tactic| trivial) => `(tactic| ((with_reducible apply tg_tup); · exact rfl))
local macro_rules | `(tactic| trivial) => `(tactic| ((with_reducible apply tg_sqt); · exact rfl))
local macro_rules | `(tactic| trivial) => `(tactic| ((with_reducible refine tg_name ?_ ?_); · exact Nat.le_of_ble_eq_true rfl))
local macro_rules | `(tactic| trivial) => `(tactic| with_reducible refine sv_drop (te := tCallS _ _ _) ?_)
local macro_rules | `(tactic| trivial) => `(tactic| with_reducible refine sv_asg (te := tOp _ _ _) ?_)
local macro_rules | `(tactic| trivial) => `(tactic| with_reducible refine sv_asg (te := tCall _ _ _ _) ?_)
local macro_rules | `(tactic| trivial) => `(tactic| with_reducible refine sv_asg (te := tCallS _ _ _) ?_)
local macro_rules | `(tactic| trivial) => `(tactic| with_reducible refine sv_asg (te := tIf _ _ _) ?_)
local macro_rules | `(tactic| trivial) => `(tactic| with_reducible refine sv_asg (te := tVar _) ?_)
local macro_rules | `(tactic| trivial) => `(tactic| with_reducible refine sv_asg (te := tC _) ?_)
local macro_rules | `(tactic| trivial) => `(tactic| with_reducible refine sv_asg (te := tTup _) ?_)
local macro_rules | `(tactic| trivial) => `(tactic| with_reducible refine sv_asg (te := tAndV _ _) ?_)
local macro_rules | `(tactic| trivial) => `(tactic| with_reducible refine sv_asg (te := tOrV _ _) ?_)
local macro_rules | `(tactic| trivial) => `(tactic| with_reducible refine sv_asg (te := tNotV _) ?_)
local macro_rules | `(tactic| trivial) => `(tactic| with_reducible refine sv_asg (te := tDGet _ _) ?_)
local macro_rules | `(tactic| trivial) => `(tactic| with_reducible refine sv_asg (te := tUn _ _) ?_)
local macro_rules | `(tactic| trivial) => `(tactic| with_reducible apply sv_asgTp)
local macro_rules | `(tactic| trivial) => `(tactic| ((with_reducible apply ev_box0); · exact rfl))
local macro_rules | `(tactic| trivial) => `(tactic| ((with_reducible apply ev_box1); · exact rfl))
local macro_rules | `(tactic| trivial) => `(tactic| ((with_reducible apply ev_box2); · exact rfl))
local macro_rules | `(tactic| trivial) => `(tactic| ((with_reducible apply ev_box3); · exact rfl))
local macro_rules | `(tactic| trivial) => `(tactic| with_reducible apply sv_asgLp)
local macro_rules | `(tactic| trivial) => `(tactic| ((with_reducible apply tg_lst); · exact rfl))
abbrev s__law_between : Stmt := topS 50
theorem sc__law_between : FnScope ["answers", "lot", "low", "most", "some", "least", "high", "turn", "middle"] ["answers", "lot"] (defScope s__law_between) := ⟨rfl, rfl, rfl, by decide +kernel, rfl, by decide +kernel, by decide +kernel⟩
section
variable {P : Program} {w : World} {K : PySem.W.Frag} {mg : Str → Option Value} {base : Heap} {f : Addr} {fd : FuncData}
abbrev p_law_between (K : PySem.W.Frag) : Sp := Pu K 2 (r2 fun a b Ψ => ∃ (l : List An) (n : List Int) (isL : Bool), SeqD a (l.map anD) ∧ b = dtQ isL n ∧ l.length ≤ 900 ∧ (∀ a ∈ l, a.lot ∈ sixL) ∧ n ∈ sixL ∧ Ψ (.tup [.int (halv l n).1, oi (topsT l (ikey n))]))
theorem d__law_between (B : Bi mg) (D__law_tops : DefOk P w K mg base CX0 2 "_law_tops" ["answers"] (p_law_tops K)) (D__law_possible : DefOk P w K mg base CX0 3 "_law_possible" ["answers"] (p_law_possible K)) (D__law_put : DefOk P w K mg base CX0 1 "_law_put" ["answers", "lot", "low", "high"] (p_put K)) (F : TopD K mg "_law_between" s__law_between ["answers", "lot"] f fd) : DefOk P w K mg base CX0 4 "_law_between" ["answers", "lot"] (p_law_between K) := by
  refine F.ok (F.fn.ok sc__law_between (fun _ _ _ _ => Pu.len) (fun cdv A outer s H vs Q E hr h => ⟨_, (pss_cons (ps_par (i := 2) (j := 3) (by rfl) sc__law_between.nd rfl rfl (by decide) rfl rfl (pa_cons pe_int (pa_cons (pe_b (kMax (K := K) rfl rfl) B.max (pa_cons (pe_op op_cat (pe_lst (pa_cons pe_int pa_nil)) (pe_lc (own := [("some", 4), ("least", 5), ("high", 6)]) (g := (gTup K 3 (gCons (gName 4) (gCons (gName 5) (gCons (gName 6) gNil))))) (tt := tYes) rfl sc__law_between.nd (kSeq (K := K) rfl (pv 0)) (blkOk_by (own := [("some", 4), ("least", 5), ("high", 6)]) (N := ["answers", "lot", "low", "most", "some", "least", "high", "turn", "middle"]) (sc := defScope s__law_between) (by decide +kernel)) (fun _ _ _ _ _ => (kTup (K := K) (n := 3) rfl rfl (pgs_cons (pg_name (i := 4) sc__law_between.nd rfl (.inl rfl)) (pgs_cons (pg_name (i := 5) sc__law_between.nd rfl (.inl rfl)) (pgs_cons (pg_name (i := 6) sc__law_between.nd rfl (.inl rfl)) pgs_nil))))) (fun _ _ _ _ _ => pts_nil) (fun _ _ _ _ _ => (pv 5)))) pa_nil)) pa_nil)) (by rfl))
      (pss_cons (ps_for PassesOwn.never rfl (pi_range1 (by rfl) B.range (pa_cons pe_int pa_nil)) (pg_name (i := 7) sc__law_between.nd rfl (.inl rfl)) (pss_one (ps_if (pt_cmpR op_lt (pv 2) (pv 3) (nomark _)) (pss_cons (ps_set (i := 8) sc__law_between.nd rfl (.inl rfl) (pe_op op_fdiv (pe_op op_add (pv 2) (pv 3)) pe_int))
      (pss_cons (ps_set (i := 4) sc__law_between.nd rfl (.inl rfl) (pe_d D__law_put hr pass0 (pa_cons (pv 0) (pa_cons (pv 1) (pa_cons pe_int (pa_cons (pv 8) pa_nil))))))
      (pss_one (ps_if (PW.pt (pw_and (pt_cmpR op_notN (pv 4) pe_non (nomark _)) (pw_and1 (pt_val (pe_d D__law_possible hr pass0 (pa_cons (pv 4) pa_nil)))))) (pss_one (ps_set (i := 3) sc__law_between.nd rfl (.inl rfl) (pv 8))) (pss_one (ps_set (i := 2) sc__law_between.nd rfl (.inl rfl) (pe_op op_add (pv 8) pe_int))))))) pss_nil)))
      (pss_one (ps_ret (pe_tup (pa_cons (pv 2) (pa_cons (pe_dget (hu_of hr) (pe_d D__law_tops hr pass0 (pa_cons (pv 0) pa_nil)) (pe_t (kTuple (K := K) rfl) B.tuple (pa_cons (pv 1) pa_nil)) (fun _ _ => rfl)) pa_nil))))))),
    pu_start h (by decide) fun r ds Ψ hl hR => ?_⟩))
  try dsimp only [cxOf, Cx.nox]
  obtain ⟨v1, v2, rfl⟩ := ds2 hl
  dsimp only [r2] at hR
  obtain ⟨l, n, isL, q1, rfl, hlen, hok, hn, hR⟩ := hR
  refine sv_seq (sv_par ?_)
  repeat trivial
  refine EvN.ev (en_lst ?_)
  repeat trivial
  refine EvN.ev (en_lcF (js := [4] ++ ([5] ++ ([6] ++ []))) (fun _ h => h) (src_seq (ev_var rfl ⟨_, q1, ?_⟩)))
  refine ⟨by rw [List.length_map]; omega, rfl, fun i => some (.int ((fun d : Dt => (d.items.getD 1 .non).toI) (itemOf (l.map anD) i))), fun i hi => ?_, ?_⟩
  · have hi' : i < l.length := by rw [List.length_map] at hi; exact hi
    rw [itemOf_map hi']
    generalize hx : l[i] = a
    refine tg_tup (ds := [dtQ a.isL a.lot, .int a.lo, oi a.hi]) rfl ?_
    repeat trivial
    show some (Dt.int ((itemOf (l.map anD) i).items.getD 1 .non).toI) = _
    rw [itemOf_map hi', hx]
    rfl
  · have e : (List.range (l.map anD).length).filterMap (fun i => some (Dt.int ((fun d : Dt => (d.items.getD 1 .non).toI) (itemOf (l.map anD) i)))) = (l.map (·.lo)).map Dt.int := by
      rw [range_ints (fun d : Dt => (d.items.getD 1 .non).toI), List.map_map, List.map_map, List.map_map]
      rfl
    rw [e]
    refine ⟨_, opd_cat (by rw [List.length_map, List.length_map]; show 1 + l.length ≤ 100000; omega), ?_⟩
    have hx := foldl_max (l.map (·.lo)) 0
    refine ea_nil ⟨_, cbd_max (ns := 0 :: l.map (·.lo)) (m := maxL (0 :: l.map (·.lo))) hx.1 hx.2, Nat.le_of_ble_eq_true rfl, Nat.le_of_ble_eq_true rfl, ?_⟩
    refine sv_seq (sv_for (js := [7]) (src_range ?_))
    repeat trivial
    refine ⟨by decide, by decide, fun i Γ => ∃ x7 x8 x4, Γ = [.d v1, .d (dtQ isL n), .d (.int (iterS (halfS l n) i (0, maxL (0 :: l.map (·.lo)))).1), .d (.int (iterS (halfS l n) i (0, maxL (0 :: l.map (·.lo)))).2), x4, .any, .any, x7, x8], ⟨_, _, _, rfl⟩, ?_, ?_⟩
    · rintro i Γ hi ⟨x7, x8, x4, rfl⟩
      have e : iterS (halfS l n) (i + 1) (0, maxL (0 :: l.map (·.lo))) = halfS l n (iterS (halfS l n) i (0, maxL (0 :: l.map (·.lo)))) := rfl
      dsimp only
      rw [e]
      generalize iterS (halfS l n) i (0, maxL (0 :: l.map (·.lo))) = s
      obtain ⟨lo, hi2⟩ := s
      repeat trivial
      cases hc : decide (lo < hi2) with
      | false =>
        have eh : halfS l n (lo, hi2) = (lo, hi2) := if_neg (of_decide_eq_false hc)
        rw [eh]
        repeat trivial
        exact ⟨_, _, _, rfl⟩
      | true =>
        have hlt := of_decide_eq_true hc
        repeat trivial
        refine ⟨_, opd_I ⟨by decide, by decide⟩, ?_⟩
        repeat trivial
        have eh : halfS l n (lo, hi2) = (match putM l n 0 (some ((lo + hi2) / 2)) with
          | some l' => if possT l' = true then (lo, (lo + hi2) / 2) else ((lo + hi2) / 2 + 1, hi2)
          | none => ((lo + hi2) / 2 + 1, hi2)) := if_pos hlt
        rw [eh]
        refine ⟨l, n, 0, some ((lo + hi2) / 2), q1, seqQ isL n, rfl, rfl, by omega, ?_, fun l' hl' => ?_, fun hno => ?_⟩
        · have z : ∀ m ∈ sixL, m.length ≤ 1000 := by decide
          exact z n hn
        · rw [hl']
          have hk := putM_ok hl' hlen hok hn
          repeat trivial
          refine ⟨l', .lst _, hk, ?_⟩
          repeat trivial
          cases possT l' with
          | true =>
            repeat trivial
            exact ⟨_, _, _, rfl⟩
          | false =>
            repeat trivial
            exact ⟨_, _, _, rfl⟩
        · rw [hno]
          repeat trivial
          exact ⟨_, _, _, rfl⟩
    · rintro Γ ⟨x7, x8, x4, rfl⟩
      repeat trivial
      refine ev_dgetT ?_
      repeat trivial
      refine ⟨l, q1, ⟨by omega, hok⟩, ?_⟩
      repeat trivial
      refine ⟨_, cbd_tupQ, _, n, _, rfl, rfl, gd_look (key_mem hn), ?_⟩
      repeat trivial
end
end Cp
/-! K81l: answers drawn, multiplied, copied -/
namespace Cp
open PySem PySem.Spec PyProof.Rows L2
local macro_rules | `(tactic| trivial) => `(tactic| with_reducible refine ea_nil ?_)
local macro_rules | `(tactic| trivial) => `(tactic| with_reducible refine ea_cons ?_)
local macro_rules | `(tactic| trivial) => `(tactic| with_reducible refine et_test ?_)
local macro_rules | `(tactic| trivial) => `(tactic| with_reducible refine et_yes ?_)
local macro_rules | `(tactic| trivial) => `(tactic| with_reducible refine et_B ?_)
local macro_rules | `(tactic| trivial) => `(tactic| with_reducible refine ev_lenS ?_)
local macro_rules | `(tactic| trivial) => `(tactic| with_reducible refine et_and ?_)
local macro_rules | `(tactic| trivial) => `(tactic| with_reducible refine et_or ?_)
local macro_rules | `(tactic| trivial) => `(tactic| with_reducible refine et_not ?_)
local macro_rules | `(tactic| trivial) => `(tactic| with_reducible refine ev_if ?_)
local macro_rules | `(tactic| trivial) => `(tactic| with_reducible refine ev_chain ?_)
local macro_rules | `(tactic| trivial) => `(tactic| with_reducible refine ev_and ?_)
local macro_rules | `(tactic| trivial) => `(tactic| with_reducible refine ev_or ?_)
local macro_rules | `(tactic| trivial) => `(tactic| with_reducible refine ev_not ?_)
local macro_rules | `(tactic| trivial) => `(tactic| with_reducible refine ev_op ?_)
local macro_rules | `(tactic| trivial) => `(tactic| with_reducible refine ev_cb ?_)
local macro_rules | `(tactic| trivial) => `(tactic| with_reducible refine ev_isi kit_int ?_)
local macro_rules | `(tactic| trivial) => `(tactic| with_reducible refine ev_isi kit_bool ?_)
local macro_rules | `(tactic| trivial) => `(tactic| with_reducible refine ev_isi kit_str ?_)
local macro_rules | `(tactic| trivial) => `(tactic| with_reducible refine ev_isi kit_list ?_)
local macro_rules | `(tactic| trivial) => `(tactic| with_reducible refine ev_isi kit_tuple ?_)
local macro_rules | `(tactic| trivial) => `(tactic| with_reducible refine ev_isi2 kit_list kit_tuple ?_)
local macro_rules | `(tactic| trivial) => `(tactic| with_reducible refine ev_call ?_)
local macro_rules | `(tactic| trivial) => `(tactic| with_reducible refine ev_tup ?_)
local macro_rules | `(tactic| trivial) => `(tactic| with_reducible refine ev_i ?_)
local macro_rules | `(tactic| trivial) => `(tactic| with_reducible refine ev_b ?_)
local macro_rules | `(tactic| trivial) => `(tactic| with_reducible refine ev_n ?_)
local macro_rules | `(tactic| trivial) => `(tactic| with_reducible refine ev_s ?_)
local macro_rules | `(tactic| trivial) => `(tactic| ((with_reducible apply ev_var); · exact rfl))
local macro_rules | `(tactic| trivial) => `(tactic| ((with_reducible apply ev_varV); (· exact rfl); (· assumption)))
local macro_rules | `(tactic| trivial) => `(tactic| with_reducible refine sv_ret ?_)
local macro_rules | `(tactic| trivial) => `(tactic| with_reducible refine sv_if ?_)
local macro_rules | `(tactic| trivial) => `(tactic| (with_reducible refine sv_nx ?_))
local macro_rules | `(tactic| trivial) => `(tactic| ((with_reducible apply le_and); · exact rfl))
local macro_rules | `(tactic| trivial) => `(tactic| ((with_reducible apply lt_and); · exact rfl))
local macro_rules | `(tactic| trivial) => `(tactic| ((with_reducible apply ex_and); · exact rfl))
local macro_rules | `(tactic| trivial) => `(tactic| (((with_reducible apply eq_and); · exact rfl); try dsimp only [r0, r1, r2, r3, r4, x1, x2]))
local macro_rules | `(tactic| trivial) => `(tactic| with_reducible refine ⟨_, opd_I0, ?_⟩)
local macro_rules | `(tactic| trivial) => `(tactic| with_reducible refine ⟨_, opd_B0, ?_⟩)
local macro_rules | `(tactic| trivial) => `(tactic| with_reducible refine ⟨_, opd_isN, ?_⟩)
local macro_rules | `(tactic| trivial) => `(tactic| with_reducible refine ⟨_, opd_notN, ?_⟩)
local macro_rules | `(tactic| trivial) => `(tactic| with_reducible refine ⟨_, opd_isB, ?_⟩)
local macro_rules | `(tactic| trivial) => `(tactic| with_reducible refine ⟨_, opd_eqI, ?_⟩)
local macro_rules | `(tactic| trivial) => `(tactic| with_reducible refine ⟨_, opd_neI, ?_⟩)
local macro_rules | `(tactic| trivial) => `(tactic| ((with_reducible apply ite_t); · exact rfl))
local macro_rules | `(tactic| trivial) => `(tactic| ((with_reducible apply ite_f); · exact rfl))
local macro_rules | `(tactic| trivial) => `(tactic| with_reducible refine sv_seq ?_)
local macro_rules | `(tactic| trivial) => `(tactic| with_reducible refine tgl_nil ?_)
local macro_rules | `(tactic| trivial) => `(tactic| with_reducible apply tgl_cons)
local macro_rules | `(tactic| trivial) => `(tactic| ((with_reducible apply tg_tup); · exact rfl))
local macro_rules | `(tactic| trivial) => `(tactic| ((with_reducible apply tg_sqt); · exact rfl))
local macro_rules | `(tactic| trivial) => `(tactic| ((with_reducible refine tg_name ?_ ?_); · exact Nat.le_of_ble_eq_true rfl))
local macro_rules | `(tactic| trivial) => `(tactic| with_reducible refine sv_drop (te := tCallS _ _ _) ?_)
local macro_rules | `(tactic| trivial) => `(tactic| with_reducible refine sv_asg (te := tOp _ _ _) ?_)
local macro_rules | `(tactic| trivial) => `(tactic| with_reducible refine sv_asg (te := tCall _ _ _ _) ?_)
local macro_rules | `(tactic| trivial) => `(tactic| with_reducible refine sv_asg (te := tCallS _ _ _) ?_)
local macro_rules | `(tactic| trivial) => `(tactic| with_reducible refine sv_asg (te := tIf _ _ _) ?_)
local macro_rules | `(tactic| trivial) => `(tactic| with_reducible refine sv_asg (te := tVar _) ?_)
local macro_rules | `(tactic| trivial) => `(tactic| with_reducible refine sv_asg (te := tC _) ?_)
local macro_rules | `(tactic| trivial) => `(tactic| with_reducible refine sv_asg (te := tTup _) ?_)
local macro_rules | `(tactic| trivial) => `(tactic| with_reducible refine sv_asg (te := tAndV _ _) ?_)
local macro_rules | `(tactic| trivial) => `(tactic| with_reducible refine sv_asg (te := tOrV _ _) ?_)
local macro_rules | `(tactic| trivial) => `(tactic| with_reducible refine sv_asg (te := tNotV _) ?_)
local macro_rules | `(tactic| trivial) => `(tactic| with_reducible refine sv_asg (te := tDGet _ _) ?_)
local macro_rules | `(tactic| trivial) => `(tactic| with_reducible refine sv_asg (te := tUn _ _) ?_)
local macro_rules | `(tactic| trivial) => `(tactic| with_reducible apply sv_asgTp)
local macro_rules | `(tactic| trivial) => `(tactic| ((with_reducible apply ev_box0); · exact rfl))
local macro_rules | `(tactic| trivial) => `(tactic| ((with_reducible apply ev_box1); · exact rfl))
local macro_rules | `(tactic| trivial) => `(tactic| ((with_reducible apply ev_box2); · exact rfl))
local macro_rules | `(tactic| trivial) => `(tactic| ((with_reducible apply ev_box3); · exact rfl))
local macro_rules | `(tactic| trivial) => `(tactic| with_reducible apply sv_asgLp)
local macro_rules | `(tactic| trivial) => `(tactic| ((with_reducible apply tg_lst); · exact rfl))
abbrev s__law_great : Stmt := topS 52
theorem sc__law_great : FnScope ["answers", "factor", "lot", "low", "high"] ["answers", "factor"] (defScope s__law_great) := ⟨rfl, rfl, rfl, by decide +kernel, rfl, by decide +kernel, by decide +kernel⟩
abbrev s__law_copy : Stmt := topS 53
theorem sc__law_copy : FnScope ["answers", "lot", "low", "high"] ["answers"] (defScope s__law_copy) := ⟨rfl, rfl, rfl, by decide +kernel, rfl, by decide +kernel, by decide +kernel⟩
abbrev s__law_answers : Stmt := topS 51
theorem sc__law_answers : FnScope ["box", "table", "found", "lot", "item", "way", "i", "low", "high", "at"] ["box", "table"] (defScope s__law_answers) := ⟨rfl, rfl, rfl, by decide +kernel, rfl, by decide +kernel, by decide +kernel⟩
def anSmall (a : An) : Prop := a.lot ∈ sixL ∧ 0 ≤ a.lo ∧ a.lo ≤ 100 ∧ ∀ h, a.hi = some h → a.lo ≤ h ∧ h ≤ 100
def greatA (f : Int) (a : An) : An := ⟨a.lot, a.lo * f, a.hi.map (· * f), a.isL⟩
theorem seqAn {a : An} : (anD a) = .tup [dtQ a.isL a.lot, .int a.lo, oi a.hi] := rfl
section
variable {P : Program} {w : World} {K : PySem.W.Frag} {mg : Str → Option Value} {base : Heap} {f : Addr} {fd : FuncData}
abbrev p_great (K : PySem.W.Frag) : Sp := Pu K 2 (r2 fun a b Ψ => ∃ (l : List An) (g : Int), SeqD a (l.map anD) ∧ b = .int g ∧ l.length ≤ 1000 ∧ (∀ x ∈ l, anSmall x) ∧ Ψ (.lst ((l.map (greatA g)).map anD)))
abbrev p_copy (K : PySem.W.Frag) : Sp := Pu K 1 (r1 fun a Ψ => ∃ l : List An, SeqD a (l.map anD) ∧ l.length ≤ 1000 ∧ Ψ (.lst (l.map anD)))
theorem d__law_great (B : Bi mg) (F : TopD K mg "_law_great" s__law_great ["answers", "factor"] f fd) : DefOk P w K mg base CX0 1 "_law_great" ["answers", "factor"] (p_great K) := by
  refine F.ok (F.fn.ok sc__law_great (fun _ _ _ _ => Pu.len) (fun cdv A outer s H vs Q E hr h => ⟨_, (pss_one (ps_ret (pe_lc (own := [("lot", 2), ("low", 3), ("high", 4)]) (g := (gTup K 3 (gCons (gName 2) (gCons (gName 3) (gCons (gName 4) gNil))))) (tt := tYes) rfl sc__law_great.nd (kSeq (K := K) rfl (pv 0)) (blkOk_by (own := [("lot", 2), ("low", 3), ("high", 4)]) (N := ["answers", "factor", "lot", "low", "high"]) (sc := defScope s__law_great) (by decide +kernel)) (fun _ _ _ _ _ => (kTup (K := K) (n := 3) rfl rfl (pgs_cons (pg_name (i := 2) sc__law_great.nd rfl (.inl rfl)) (pgs_cons (pg_name (i := 3) sc__law_great.nd rfl (.inl rfl)) (pgs_cons (pg_name (i := 4) sc__law_great.nd rfl (.inl rfl)) pgs_nil))))) (fun _ _ _ _ _ => pts_nil) (fun _ _ _ _ _ => (pe_tup (pa_cons (pv 2) (pa_cons (pe_op op_mul (pv 3) (pv 1)) (pa_cons (pe_ifExp (pt_cmpR op_isN (pv 4) pe_non (nomark _)) pe_non (pe_op op_mul (pv 4) (pv 1))) pa_nil)))))))),
    pu_start h (by decide) fun r ds Ψ hl hR => ?_⟩))
  try dsimp only [cxOf, Cx.nox]
  obtain ⟨v1, v2, rfl⟩ := ds2 hl
  dsimp only [r2] at hR
  obtain ⟨l, g, q, rfl, hlen, hs, hR⟩ := hR
  repeat trivial
  refine EvN.ev (en_lcF (js := [2] ++ ([3] ++ ([4] ++ []))) (fun _ h => h) (src_seq (ev_var rfl ⟨_, q, ?_⟩)))
  refine ⟨by rw [List.length_map]; omega, rfl, fun i => some (anD (greatA g (l.getD i ⟨[], 0, none, true⟩))), fun i hi => ?_, ?_⟩
  · have hi' : i < l.length := by rw [List.length_map] at hi; exact hi
    rw [itemOf_map hi']
    have eg : l.getD i ⟨[], 0, none, true⟩ = l[i] := by
      rw [List.getD_eq_getElem?_getD, List.getElem?_eq_getElem hi']
      rfl
    dsimp only
    rw [eg]
    obtain ⟨h1, h2, h3, h4⟩ := hs l[i] (List.getElem_mem hi')
    generalize l[i] = a at h1 h2 h3 h4
    refine tg_tup (ds := [dtQ a.isL a.lot, .int a.lo, oi a.hi]) rfl ?_
    repeat trivial
    refine ⟨_, opd_I (.inl ⟨by omega, by omega⟩), ?_⟩
    repeat trivial
    cases hh : a.hi with
    | none =>
      repeat trivial
      unfold greatA anD
      rw [hh]
      rfl
    | some h =>
      have z := h4 h hh
      repeat trivial
      refine ⟨_, opd_I (.inl ⟨by omega, by omega⟩), ?_⟩
      repeat trivial
      unfold greatA anD
      rw [hh]
      rfl
  · have e : (List.range (l.map anD).length).filterMap (fun i => some (anD (greatA g (l.getD i ⟨[], 0, none, true⟩)))) = (l.map (greatA g)).map anD := by
      rw [List.length_map, range_map (fun i => anD (greatA g (l.getD i ⟨[], 0, none, true⟩))), List.map_map]
      refine List.ext_getElem? fun i => ?_
      rw [List.getElem?_map, List.getElem?_map]
      by_cases h : i < l.length
      · rw [List.getElem?_range h, Option.map_some, List.getD_eq_getElem?_getD, List.getElem?_eq_getElem h]
        rfl
      · rw [List.getElem?_eq_none (by rw [List.length_range]; omega), List.getElem?_eq_none (by omega)]
        rfl
    rw [e]
    exact hR
theorem d__law_copy (B : Bi mg) (F : TopD K mg "_law_copy" s__law_copy ["answers"] f fd) : DefOk P w K mg base CX0 1 "_law_copy" ["answers"] (p_copy K) := by
  refine F.ok (F.fn.ok sc__law_copy (fun _ _ _ _ => Pu.len) (fun cdv A outer s H vs Q E hr h => ⟨_, (pss_one (ps_ret (pe_lc (own := [("lot", 1), ("low", 2), ("high", 3)]) (g := (gTup K 3 (gCons (gName 1) (gCons (gName 2) (gCons (gName 3) gNil))))) (tt := tYes) rfl sc__law_copy.nd (kSeq (K := K) rfl (pv 0)) (blkOk_by (own := [("lot", 1), ("low", 2), ("high", 3)]) (N := ["answers", "lot", "low", "high"]) (sc := defScope s__law_copy) (by decide +kernel)) (fun _ _ _ _ _ => (kTup (K := K) (n := 3) rfl rfl (pgs_cons (pg_name (i := 1) sc__law_copy.nd rfl (.inl rfl)) (pgs_cons (pg_name (i := 2) sc__law_copy.nd rfl (.inl rfl)) (pgs_cons (pg_name (i := 3) sc__law_copy.nd rfl (.inl rfl)) pgs_nil))))) (fun _ _ _ _ _ => pts_nil) (fun _ _ _ _ _ => (pe_tup (pa_cons (pe_ifExp (pt_val (pe_b (kIsi (K := K) rfl) B.isinstance (pa_cons (pv 1) (pa_cons (pe_ty "list" B.list) pa_nil)))) (pe_t (kList (K := K) rfl) B.list (pa_cons (pv 1) pa_nil)) (pv 1)) (pa_cons (pv 2) (pa_cons (pv 3) pa_nil)))))))),
    pu_start h (by decide) fun r ds Ψ hl hR => ?_⟩))
  try dsimp only [cxOf, Cx.nox]
  obtain ⟨v1, rfl⟩ := ds1 hl
  dsimp only [r1] at hR
  obtain ⟨l, q, hlen, hR⟩ := hR
  repeat trivial
  refine EvN.ev (en_lcF (js := [1] ++ ([2] ++ ([3] ++ []))) (fun _ h => h) (src_seq (ev_var rfl ⟨_, q, ?_⟩)))
  refine ⟨by rw [List.length_map]; omega, rfl, fun i => some (itemOf (l.map anD) i), fun i hi => ?_, ?_⟩
  · have hi' : i < l.length := by rw [List.length_map] at hi; exact hi
    dsimp only
    rw [itemOf_map hi']
    generalize l[i] = a
    refine tg_tup (ds := [dtQ a.isL a.lot, .int a.lo, oi a.hi]) rfl ?_
    repeat trivial
    cases hb : a.isL with
    | true =>
      repeat trivial
      refine ⟨_, (cbn_list (seqQ true a.lot)).d, ?_⟩
      repeat trivial
      all_goals (unfold anD; rw [hb]; try rfl)
    | false =>
      repeat trivial
      all_goals (unfold anD; rw [hb]; try rfl)
  · have e : (List.range (l.map anD).length).filterMap (fun i => some (itemOf (l.map anD) i)) = l.map anD := by
      have z := range_items' (fun d : Dt => d) (l.map anD)
      rw [List.map_id'] at z
      exact z
    rw [e]
    exact hR
end
/-- answers as they are drawn: each lot at most once -/
def drawn (l : List An) : Prop := l.length ≤ 6 ∧ (l.map (·.lot)).Nodup ∧ ∀ a ∈ l, anSmall a
theorem lotN_six : ∀ x ∈ sixL, 1 ≤ lotN x ∧ lotN x ≤ 6 := by decide
theorem lot_bounds : ∀ x ∈ sixL, x.length ≤ 2 ∧ ∀ n ∈ x, 0 ≤ n ∧ n ≤ 2 := by decide
theorem lay_an (a : An) : (anD a).lay 2 = true := by
  have h1 := dtQ_lay a.isL a.lot
  have h2 : (oi a.hi).lay 1 = true := by cases a.hi <;> rfl
  show ((dtQ a.isL a.lot).lay 1 && ((Dt.int a.lo).lay 1 && ((oi a.hi).lay 1 && true))) = true
  rw [h1, h2]
  rfl
theorem perm_lots {es : List Dt} (hp : es.Perm (sixL.map (dtQ true))) : ∃ ls : List (List Int), ls.Perm sixL ∧ es = ls.map (dtQ true) := by
  have gf : ∀ x : List Int, (dtQ true x).items.map Dt.toI = x := fun x => by
    show (x.map Dt.int).map Dt.toI = x
    rw [List.map_map]
    exact List.map_id'' (fun _ => rfl) x
  refine ⟨es.map fun d => d.items.map Dt.toI, ?_, ?_⟩
  · have z := hp.map fun d : Dt => d.items.map Dt.toI
    rw [List.map_map] at z
    have e : sixL.map ((fun d : Dt => d.items.map Dt.toI) ∘ dtQ true) = sixL := List.map_id'' gf sixL
    rw [e] at z
    exact z
  · rw [List.map_map]
    refine (List.map_id'' (fun d => rfl) es).symm.trans (List.map_congr_left fun d hd => ?_)
    obtain ⟨x, _, rfl⟩ := List.mem_map.mp (hp.mem_iff.mp hd)
    show dtQ true x = dtQ true ((dtQ true x).items.map Dt.toI)
    rw [gf]
theorem cut_take (l : List Dt) (t : Nat) : cutD l none (some (t : Int)) = l.take t := by
  have e1 : HT.sIx l.length l.length (some (t : Int)) = min t l.length := HT.sIx_nat _ _ t
  simp only [cutD, e1, HT.sIx_none, List.drop_zero, Nat.sub_zero]
  rw [List.take_eq_take_iff]
  omega
theorem table_at {xs : List Int} (h8 : xs.length = 8) (hx : ∀ x ∈ xs, 0 ≤ x ∧ x ≤ 28) {lot : List Int} (hl : lot ∈ sixL) : ∃ x, atI (xs.map Dt.int) (lotN lot) = some (.int x) ∧ 0 ≤ x ∧ x ≤ 28 := by
  obtain ⟨h1, h2⟩ := lotN_six lot hl
  obtain ⟨k, hk⟩ : ∃ k : Nat, lotN lot = (k : Int) := ⟨(lotN lot).toNat, by omega⟩
  rw [hk]
  have hkl : k < xs.length := by omega
  refine ⟨xs.getD k 0, by rw [atI_ok (by rw [List.length_map]; exact hkl), getD_map hkl], ?_⟩
  rw [List.getD_eq_getElem?_getD, List.getElem?_eq_getElem hkl]
  exact hx _ (List.getElem_mem hkl)
section
variable {P : Program} {w : World} {K : PySem.W.Frag} {mg : Str → Option Value} {base : Heap} {f : Addr} {fd : FuncData}
abbrev p_answers (K : PySem.W.Frag) : Sp := PuB K 1 (fun _ => 200) (r1 fun a Ψ => ∃ xs : List Int, a = .tup (xs.map .int) ∧ xs.length = 8 ∧ (∀ x ∈ xs, 0 ≤ x ∧ x ≤ 28) ∧ ∀ l, drawn l → Ψ (.lst (l.map anD)))
theorem d__law_answers (B : Bi mg) (D__law_take : DefOk P w K mg base CX0 1 "_law_take" ["box", "many"] (p_take K)) (D__law_mixed : DefOk P w K mg base CX0 2 "_law_mixed" ["box", "items"] (p_mixed K)) (D__law_lots_of : DefOk P w K mg base CX0 1 "_law_lots_of" [] (p_lots_of K)) (F : TopD K mg "_law_answers" s__law_answers ["box", "table"] f fd) : DefOk P w K mg base CX0 3 "_law_answers" ["box", "table"] (p_answers K) := by
  refine F.ok (F.fn.ok sc__law_answers (fun _ _ _ _ => PuB.len) (fun cdv A outer s H vs Q E hr h => ⟨_, (pss_cons (ps_set (i := 2) sc__law_answers.nd rfl (.inl rfl) (pe_lst pa_nil))
      (pss_cons (ps_for PassesOwn.never rfl (kSeq (K := K) rfl (pe_slice (kSl (K := K) rfl) (pe_d D__law_mixed hr pass0 (pa_cons (pv 0) (pa_cons (pe_d0 D__law_lots_of hr pass0) pa_nil))) po_none (po_some (pe_d D__law_take hr pass0 (pa_cons (pv 0) (pa_cons pe_int pa_nil)))))) (pg_name (i := 3) sc__law_answers.nd rfl (.inl rfl)) (pss_cons (ps_par (i := 4) (j := 5) (by rfl) sc__law_answers.nd rfl rfl (by decide) rfl rfl (pa_cons (pe_ix (kIx (K := K) rfl) (pv 1) (pe_b (kSumS (K := K) rfl rfl) B.sum (pa_cons (pe_lc (own := [("i", 6)]) (g := (gName 6)) (tt := tYes) rfl sc__law_answers.nd (kSeq (K := K) rfl (pv 3)) (blkOk_by (own := [("i", 6)]) (N := ["box", "table", "found", "lot", "item", "way", "i", "low", "high", "at"]) (sc := defScope s__law_answers) (by decide +kernel)) (fun _ _ _ _ _ => (pg_name (i := 6) sc__law_answers.nd rfl (.inl rfl))) (fun _ _ _ _ _ => pts_nil) (fun _ _ _ _ _ => (pe_op op_shl pe_int (pv 6)))) pa_nil)) (fun _ _ => rfl)) (pa_cons (pe_d D__law_take hr pass0 (pa_cons (pv 0) (pa_cons pe_int pa_nil))) pa_nil)) (by rfl))
      (pss_cons (ps_set (i := 7) sc__law_answers.nd rfl (.inl rfl) (pe_ix (kIx (K := K) rfl) (pe_lst (pa_cons (pv 4) (pa_cons (pe_b (call_max2 rfl) B.max (pa_cons pe_int (pa_cons (pe_op op_sub (pv 4) (pe_d D__law_take hr pass0 (pa_cons (pv 0) (pa_cons pe_int pa_nil)))) pa_nil))) (pa_cons pe_int (pa_cons (pv 4) pa_nil))))) (pv 5) (fun _ _ => rfl)))
      (pss_cons (ps_set (i := 8) sc__law_answers.nd rfl (.inl rfl) (pe_ix (kIx (K := K) rfl) (pe_lst (pa_cons (pv 4) (pa_cons (pe_op op_add (pv 4) (pe_d D__law_take hr pass0 (pa_cons (pv 0) (pa_cons pe_int pa_nil)))) (pa_cons (pe_op op_add (pv 4) (pe_d D__law_take hr pass0 (pa_cons (pv 0) (pa_cons pe_int pa_nil)))) (pa_cons pe_non pa_nil))))) (pv 5) (fun _ _ => rfl)))
      (pss_one (ps_expr (pe_bm PySem.F.plainAttrs_list PySem.F.slot_list_append PySem.F.type_list_append mt_append (pv 2) (pa_cons (pe_tup (pa_cons (pe_ifExp (pt_cmpR op_eq (pe_d D__law_take hr pass0 (pa_cons (pv 0) (pa_cons pe_int pa_nil))) pe_int (nomark _)) (pv 3) (pe_t (kTuple (K := K) rfl) B.tuple (pa_cons (pv 3) pa_nil))) (pa_cons (pv 7) (pa_cons (pv 8) pa_nil)))) pa_nil))))))))
      (pss_cons (ps_if (PW.pt (pw_and (pt_cmpR (kNeD (K := K) rfl hr) (pv 2) (pe_lst pa_nil) (nomark _)) (pw_and1 (pt_cmpR op_eq (pe_d D__law_take hr pass0 (pa_cons (pv 0) (pa_cons pe_int pa_nil))) pe_int (nomark _))))) (pss_cons (ps_set (i := 9) sc__law_answers.nd rfl (.inl rfl) (pe_d D__law_take hr pass0 (pa_cons (pv 0) (pa_cons (pe_b (kLen (K := K) rfl) B.len (pa_cons (pv 2) pa_nil)) pa_nil))))
      (pss_cons (ps_asg (pe_ix (kIx (K := K) rfl) (pv 2) (pv 9) (fun _ _ => rfl)) (kTup (K := K) (n := 3) rfl rfl (pgs_cons (pg_name (i := 3) sc__law_answers.nd rfl (.inl rfl)) (pgs_cons (pg_name (i := 7) sc__law_answers.nd rfl (.inl rfl)) (pgs_cons (pg_name (i := 8) sc__law_answers.nd rfl (.inl rfl)) pgs_nil)))))
      (pss_cons (ps_set (i := 4) sc__law_answers.nd rfl (.inl rfl) (pe_d D__law_take hr pass0 (pa_cons (pv 0) (pa_cons pe_int pa_nil))))
      (pss_one (ps_asg (pe_tup (pa_cons (pv 3) (pa_cons (pv 4) (pa_cons (pe_ix (kIx (K := K) rfl) (pe_lst (pa_cons (pv 4) (pa_cons (pe_op op_add (pv 4) (pe_d D__law_take hr pass0 (pa_cons (pv 0) (pa_cons pe_int pa_nil)))) (pa_cons pe_non pa_nil)))) (pe_d D__law_take hr pass0 (pa_cons (pv 0) (pa_cons pe_int pa_nil))) (fun _ _ => rfl)) pa_nil)))) (pg_sub (pv 2) (pv 9) set_list)))))) pss_nil)
      (pss_one (ps_ret (pv 2)))))),
    pb_start h (by decide) fun r a ds Ψ m hl hR => ?_⟩))
  try dsimp only [cxOf, Cx.nox]
  obtain ⟨v1, rfl⟩ := ds1 hl
  dsimp only [r1] at hR
  obtain ⟨xs, rfl, hx8, hx, hR⟩ := hR
  refine sv_seq (sv_asgN (en_lst ?_))
  repeat trivial
  refine sv_for (js := [3]) (src_seq (EvN.ev (en_sl ?_)))
  refine ev_callBL rfl (ea_cons (ev_call (ea_nil ⟨rfl, ea_nil ⟨rfl, m + 190, m + 200, rfl, ?_, ?_⟩⟩)))
  · show m + 190 + 6 ≤ m + 200
    omega
  refine ⟨_, .lst _, by decide, rfl, fun es hp => ?_⟩
  obtain ⟨ls, hls, rfl⟩ := perm_lots hp
  refine eo_no (eo_at (ev_callBL rfl ?_))
  repeat trivial
  refine ⟨m + 140, _, rfl, by omega, 7, rfl, by decide, by decide, fun t t0 t1 => ⟨t, rfl, _, .inl rfl, ?_⟩⟩
  obtain ⟨t, rfl⟩ : ∃ k : Nat, t = (k : Int) := ⟨t.toNat, by omega⟩
  rw [cut_take, ← List.map_take]
  have hk6 : (ls.take t).length ≤ 6 := by
    rw [List.length_take]
    omega
  have hmem : ∀ x ∈ ls.take t, x ∈ sixL := fun x hx => hls.mem_iff.mp (List.mem_of_mem_take hx)
  have hnd : (ls.take t).Nodup := by
    have z : ls.Nodup := hls.nodup_iff.mpr (by decide)
    exact z.sublist (List.take_sublist t ls)
  generalize ls.take t = lt at hk6 hmem hnd
  refine ⟨_, .lst _, fun i Γ => ∃ (l : List An) (x3 x4 x5 x7 x8 : Arg), Γ = [.box a (m + 20 + (6 - i) * 20), .d (.tup (xs.map .int)), .l (l.map anD), x3, x4, x5, .any, x7, x8, .any] ∧ l.map (·.lot) = lt.take i ∧ ∀ y ∈ l, anSmall y, ?_, ?_, ?_⟩
  · exact ⟨[], .any, .any, .any, .any, .any, rfl, rfl, fun y hy => nomatch hy⟩
  · rintro i Γ hi ⟨l, x3, x4, x5, x7, x8, rfl, hl, hsm⟩
    have hi' : i < lt.length := by rw [List.length_map] at hi; exact hi
    rw [itemOf_map hi']
    have hb : (6 - i) * 20 = (6 - (i + 1)) * 20 + 20 := by omega
    have hl2 : lt.take (i + 1) = lt.take i ++ [lt[i]] := by
      rw [List.take_add_one, List.getElem?_eq_getElem hi']
      rfl
    have hll : l.length ≤ 6 := by
      have z := congrArg List.length hl
      rw [List.length_map, List.length_take] at z
      omega
    have hm6 := hmem lt[i] (List.getElem_mem hi')
    dsimp only
    rw [hb, hl2]
    generalize lt[i] = lot at hm6
    obtain ⟨x, hx1, hx2, hx3⟩ := table_at hx8 hx hm6
    obtain ⟨lb1, lb2⟩ := lot_bounds lot hm6
    refine tg_name (Nat.le_of_ble_eq_true rfl) (sv_seq (sv_par ?_))
    repeat trivial
    refine EvN.ev (en_lcF (js := [6]) (fun _ h => h) (src_seq (ev_var rfl ⟨_, seqQ true lot, ?_⟩)))
    refine ⟨by rw [List.length_map]; omega, rfl, fun i => some (.int ((fun d : Dt => (1 : Int) * 2 ^ d.toI.toNat) (itemOf (lot.map .int) i))), fun j hj => tg_name (Nat.le_of_ble_eq_true rfl) ?_, ?_⟩
    · repeat trivial
      rw [List.length_map] at hj
      have e := itemOf_int hj
      rw [e]
      have hm : lot.getD j 0 ∈ lot := by
        rw [List.getD_eq_getElem?_getD, List.getElem?_eq_getElem hj]
        exact List.getElem_mem hj
      obtain ⟨b1, b2⟩ := lb2 _ hm
      refine ⟨_, opd_I ⟨b1, by omega, by decide⟩, rfl, ?_⟩
      show some (Dt.int ((1 : Int) * 2 ^ (itemOf (lot.map Dt.int) j).toI.toNat)) = _
      rw [e]
      rfl
    have es : (lot.map Dt.int).map (fun d : Dt => (1 : Int) * 2 ^ d.toI.toNat) = lot.map fun n => (1 : Int) * 2 ^ n.toNat := by
      rw [List.map_map]
      rfl
    rw [range_ints (fun d : Dt => (1 : Int) * 2 ^ d.toI.toNat), es]
    repeat trivial
    refine ⟨_, cbd_sumS (.lst _), ?_⟩
    refine ⟨_, opd_ix (.tup _) hx1, ?_⟩
    refine ev_callBL rfl ?_
    repeat trivial
    refine ⟨m + 20 + (6 - (i + 1)) * 20 + 19, _, rfl, by omega, 4, rfl, by decide, by decide, fun wy w0 w1 => ?_⟩
    repeat trivial
    have cw : wy = 0 ∨ wy = 1 ∨ wy = 2 ∨ wy = 3 := by omega
    refine EvN.ev (en_lst ?_)
    repeat trivial
    refine ev_callBL rfl ?_
    repeat trivial
    refine ⟨m + 20 + (6 - (i + 1)) * 20 + 18, _, rfl, by omega, 4, rfl, by decide, by decide, fun t1 a0 a1 => ?_⟩
    repeat trivial
    refine ⟨_, cbd_max2, ?_⟩
    repeat trivial
    have hlow : ∃ v : Int, atI [Dt.int x, .int (max 0 (x - t1)), .int 0, .int x] wy = some (.int v) ∧ 0 ≤ v ∧ v ≤ x := by
      rcases cw with rfl | rfl | rfl | rfl
      · exact ⟨x, rfl, hx2, Int.le_refl _⟩
      · exact ⟨max 0 (x - t1), rfl, by omega, by omega⟩
      · exact ⟨0, rfl, by omega, hx2⟩
      · exact ⟨x, rfl, hx2, Int.le_refl _⟩
    obtain ⟨lo, hv1, hv2, hv3⟩ := hlow
    refine ⟨_, opd_ix (.lst _) hv1, ?_⟩
    repeat trivial
    refine EvN.ev (en_lst ?_)
    repeat trivial
    refine ev_callBL rfl ?_
    repeat trivial
    refine ⟨m + 20 + (6 - (i + 1)) * 20 + 17, _, rfl, by omega, 4, rfl, by decide, by decide, fun t2 b0 b1 => ?_⟩
    repeat trivial
    refine ev_callBL rfl ?_
    repeat trivial
    refine ⟨m + 20 + (6 - (i + 1)) * 20 + 16, _, rfl, by omega, 3, rfl, by decide, by decide, fun t3 c0 c1 => ?_⟩
    repeat trivial
    have hhigh : ∃ o : Option Int, atI [Dt.int x, .int (x + t2), .int (x + t3), .non] wy = some (oi o) ∧ ∀ h, o = some h → x ≤ h ∧ h ≤ 100 := by
      rcases cw with rfl | rfl | rfl | rfl
      · exact ⟨some x, rfl, fun h e => by cases e; omega⟩
      · exact ⟨some (x + t2), rfl, fun h e => by cases e; omega⟩
      · exact ⟨some (x + t3), rfl, fun h e => by cases e; omega⟩
      · exact ⟨none, rfl, fun h e => by cases e⟩
    obtain ⟨hi2, ho1, ho2⟩ := hhigh
    refine ⟨_, opd_ix (.lst _) ho1, ?_⟩
    repeat trivial
    refine sv_app rfl (ev_tup ?_)
    repeat trivial
    refine ev_callBL rfl ?_
    repeat trivial
    refine ⟨m + 20 + (6 - (i + 1)) * 20, _, rfl, by omega, 2, rfl, by decide, by decide, fun t4 d0 d1 => ?_⟩
    repeat trivial
    have fin : ∀ b : Bool, anSmall ⟨lot, lo, hi2, b⟩ := fun b => ⟨hm6, hv2, by show lo ≤ 100; omega, fun h e => by
      have z := ho2 h e
      show lo ≤ h ∧ h ≤ 100
      omega⟩
    have fin2 : ∀ b : Bool, ∀ y ∈ l ++ [⟨lot, lo, hi2, b⟩], anSmall y := fun b y hy => by
      rcases List.mem_append.mp hy with z | z
      · exact hsm y z
      · rw [List.mem_singleton.mp z]
        exact fin b
    cases decide (t4 = 0) with
    | true =>
      repeat trivial
      refine ⟨by rw [List.length_map]; omega, l ++ [⟨lot, lo, hi2, true⟩], .d (dtQ true lot), .d (.int x), .d (.int wy), .d (.int lo), .d (oi hi2), by rw [List.map_append]; rfl, by rw [List.map_append, hl]; rfl, fin2 true⟩
    | false =>
      repeat trivial
      refine ⟨_, cbd_tupL (.inl rfl), ?_⟩
      repeat trivial
      refine ⟨by rw [List.length_map]; omega, l ++ [⟨lot, lo, hi2, false⟩], .d (dtQ true lot), .d (.int x), .d (.int wy), .d (.int lo), .d (oi hi2), by rw [List.map_append]; rfl, by rw [List.map_append, hl]; rfl, fin2 false⟩
  · rintro Γ ⟨l, x3, x4, x5, x7, x8, rfl, hl, hsm⟩
    rw [List.length_map, List.take_length] at hl
    rw [List.length_map]
    have hll : l.length ≤ 6 := by
      have z := congrArg List.length hl
      rw [List.length_map] at z
      omega
    have hdr : drawn l := ⟨hll, by rw [hl]; exact hnd, hsm⟩
    have hb : m + 20 ≤ m + 20 + (6 - lt.length) * 20 := Nat.le_add_right _ _
    generalize m + 20 + (6 - lt.length) * 20 = nb at hb
    have ret : ∀ (k : Nat) (l' : List An) (x3 x4 x5 x7 x8 x9 : Arg), m ≤ k → drawn l' → Sv (r.at K noW noX) (tRet (tVar 2)) [.box a k, .d (.tup (xs.map .int)), .l (l'.map anD), x3, x4, x5, .any, x7, x8, x9] { nx := fun Γ => (∃ m', m ≤ m' ∧ Γ[0]? = some (.box a m')) ∧ Ψ .non, rt := fun d Γ => (∃ m', m ≤ m' ∧ Γ[0]? = some (.box a m')) ∧ Ψ d } := fun k l' x3 x4 x5 x7 x8 x9 hk hd =>
      sv_ret (ev_frz rfl ⟨⟨k, hk, rfl⟩, hR l' hd⟩)
    refine sv_seq (sv_if (et_and (et_test (ev_opL rfl (EvN.ev (en_lst ?_))))))
    repeat trivial
    refine ⟨.bl _, rfl, opd_neL 3 (by
      show (l.map anD).all (Dt.lay 2) = true
      rw [List.all_map]
      exact List.all_eq_true.mpr fun y _ => lay_an y) rfl, _, rfl, ?_⟩
    rw [eqv_nil]
    cases l with
    | nil =>
      refine ite_f rfl (ite_f rfl (sv_nx ?_))
      exact ret nb [] _ _ _ _ _ _ (by omega) hdr
    | cons y0 l =>
      refine ite_t rfl ?_
      repeat trivial
      refine ev_callBL rfl ?_
      repeat trivial
      refine ⟨m + 19, _, rfl, by omega, 2, rfl, by decide, by decide, fun t5 a0 a1 => ?_⟩
      repeat trivial
      cases decide (t5 = 0) with
      | false =>
        refine ite_f rfl (sv_nx ?_)
        exact ret (m + 19) (y0 :: l) _ _ _ _ _ _ (by omega) hdr
      | true =>
        refine ite_t rfl (sv_seq (sv_asg ?_))
        refine ev_callBL rfl (ea_cons (ev_cbL rfl rfl (cbd_len (.lst _)) ?_))
        repeat trivial
        rw [List.length_map]
        have hne : 0 < (y0 :: l).length := Nat.succ_pos _
        generalize y0 :: l = l at hll hdr hne
        refine ⟨m + 18, _, rfl, by omega, (l.length : Int), rfl, by omega, by omega, fun at0 b0 b1 => ?_⟩
        obtain ⟨k, rfl⟩ : ∃ k : Nat, at0 = (k : Int) := ⟨at0.toNat, by omega⟩
        have hk : k < l.length := by omega
        refine ⟨Nat.le_of_ble_eq_true rfl, sv_seq (sv_asgTp (js := [3] ++ ([7] ++ ([8] ++ []))) (ev_ixO rfl (ev_var rfl ⟨_, _, anD l[k], rfl, rfl, ?_, ?_⟩)))⟩
        · rw [atI_ok (by rw [List.length_map]; exact hk), List.getElem?_map, List.getElem?_eq_getElem hk]
          rfl
        refine tg_tup (ds := [dtQ l[k].isL l[k].lot, .int l[k].lo, oi l[k].hi]) rfl ?_
        repeat trivial
        refine ev_callBL rfl ?_
        repeat trivial
        refine ⟨m + 17, _, rfl, by omega, 12, rfl, by decide, by decide, fun it i0 i1 => ?_⟩
        repeat trivial
        refine sv_setL (ds0 := []) (ev_tup ?_)
        repeat trivial
        refine EvN.ev (en_lst ?_)
        repeat trivial
        refine ev_callBL rfl ?_
        repeat trivial
        refine ⟨m + 16, _, rfl, by omega, 3, rfl, by decide, by decide, fun u u0 u1 => ?_⟩
        repeat trivial
        refine ev_callBL rfl ?_
        repeat trivial
        refine ⟨m + 15, _, rfl, by omega, 3, rfl, by decide, by decide, fun wz z0 z1 => ?_⟩
        repeat trivial
        have hhigh : ∃ o : Option Int, atI [Dt.int it, .int (it + u), .non] wz = some (oi o) ∧ ∀ h, o = some h → it ≤ h ∧ h ≤ 100 := by
          have cw : wz = 0 ∨ wz = 1 ∨ wz = 2 := by omega
          rcases cw with rfl | rfl | rfl
          · exact ⟨some it, rfl, fun h e => by cases e; omega⟩
          · exact ⟨some (it + u), rfl, fun h e => by cases e; omega⟩
          · exact ⟨none, rfl, fun h e => by cases e⟩
        obtain ⟨o, ho1, ho2⟩ := hhigh
        refine ⟨_, opd_ix (.lst _) ho1, ?_⟩
        repeat trivial
        refine ⟨_, _, k, rfl, rfl, by unfold ixN; rw [if_pos (by omega), if_pos (by rw [List.length_map]; omega)]; simp, ?_⟩
        have eset : (l.map anD).set k (.tup [dtQ l[k].isL l[k].lot, .int it, oi o]) = (l.set k ⟨l[k].lot, it, o, l[k].isL⟩).map anD := by
          rw [List.map_set]
          rfl
        have hd2 : drawn (l.set k ⟨l[k].lot, it, o, l[k].isL⟩) := by
          obtain ⟨d1, d2, d3⟩ := hdr
          refine ⟨by rw [List.length_set]; exact d1, ?_, fun y hy => ?_⟩
          · have e : (l.set k ⟨l[k].lot, it, o, l[k].isL⟩).map (·.lot) = l.map (·.lot) := by
              rw [List.map_set]
              refine List.ext_getElem? fun j => ?_
              by_cases hj : k = j
              · subst hj
                rw [List.getElem?_set_self (by rw [List.length_map]; exact hk), List.getElem?_map, List.getElem?_eq_getElem hk]
                rfl
              · rw [List.getElem?_set_ne hj]
            rw [e]
            exact d2
          · rcases List.mem_or_eq_of_mem_set hy with z | z
            · exact d3 y z
            · rw [z]
              obtain ⟨g1, _, _, _⟩ := d3 l[k] (List.getElem_mem hk)
              exact ⟨g1, i0, by show it ≤ 100; omega, fun h e => by
                have z := ho2 h e
                show it ≤ h ∧ h ≤ 100
                omega⟩
        show Sv _ _ _ _
        rw [eset]
        exact ret (m + 15) _ _ _ _ _ _ _ (by omega) hd2
end
end Cp
/-! K81m: same -/
namespace Cp
open PySem PySem.Spec PyProof.Rows L2
local macro_rules | `(tactic| trivial) => `(tactic| with_reducible refine ea_nil ?_)
local macro_rules | `(tactic| trivial) => `(tactic| with_reducible refine ea_cons ?_)
local macro_rules | `(tactic| trivial) => `(tactic| with_reducible refine et_test ?_)
local macro_rules | `(tactic| trivial) => `(tactic| with_reducible refine et_yes ?_)
local macro_rules | `(tactic| trivial) => `(tactic| with_reducible refine et_B ?_)
local macro_rules | `(tactic| trivial) => `(tactic| with_reducible refine ev_lenS ?_)
local macro_rules | `(tactic| trivial) => `(tactic| with_reducible refine et_and ?_)
local macro_rules | `(tactic| trivial) => `(tactic| with_reducible refine et_or ?_)
local macro_rules | `(tactic| trivial) => `(tactic| with_reducible refine et_not ?_)
local macro_rules | `(tactic| trivial) => `(tactic| with_reducible refine ev_if ?_)
local macro_rules | `(tactic| trivial) => `(tactic| with_reducible refine ev_chain ?_)
local macro_rules | `(tactic| trivial) => `(tactic| with_reducible refine ev_and ?_)
local macro_rules | `(tactic| trivial) => `(tactic| with_reducible refine ev_or ?_)
local macro_rules | `(tactic| trivial) => `(tactic| with_reducible refine ev_not ?_)
local macro_rules | `(tactic| trivial) => `(tactic| with_reducible refine ev_op ?_)
local macro_rules | `(tactic| trivial) => `(tactic| with_reducible refine ev_cb ?_)
local macro_rules | `(tactic| trivial) => `(tactic| with_reducible refine ev_isi kit_int ?_)
local macro_rules | `(tactic| trivial) => `(tactic| with_reducible refine ev_isi kit_bool ?_)
local macro_rules | `(tactic| trivial) => `(tactic| with_reducible refine ev_isi kit_str ?_)
local macro_rules | `(tactic| trivial) => `(tactic| with_reducible refine ev_isi kit_list ?_)
local macro_rules | `(tactic| trivial) => `(tactic| with_reducible refine ev_isi kit_tuple ?_)
local macro_rules | `(tactic| trivial) => `(tactic| with_reducible refine ev_isi2 kit_list kit_tuple ?_)
local macro_rules | `(tactic| trivial) => `(tactic| with_reducible refine ev_call ?_)
local macro_rules | `(tactic| trivial) => `(tactic| with_reducible refine ev_tup ?_)
local macro_rules | `(tactic| trivial) => `(tactic| with_reducible refine ev_i ?_)
local macro_rules | `(tactic| trivial) => `(tactic| with_reducible refine ev_b ?_)
local macro_rules | `(tactic| trivial) => `(tactic| with_reducible refine ev_n ?_)
local macro_rules | `(tactic| trivial) => `(tactic| with_reducible refine ev_s ?_)
local macro_rules | `(tactic| trivial) => `(tactic| ((with_reducible apply ev_var); · exact rfl))
local macro_rules | `(tactic| trivial) => `(tactic| ((with_reducible apply ev_varV); (· exact rfl); (· assumption)))
local macro_rules | `(tactic| trivial) => `(tactic| with_reducible refine sv_ret ?_)
local macro_rules | `(tactic| trivial) => `(tactic| with_reducible refine sv_if ?_)
local macro_rules | `(tactic| trivial) => `(tactic| (with_reducible refine sv_nx ?_))
local macro_rules | `(tactic| trivial) => `(tactic| ((with_reducible apply le_and); · exact rfl))
local macro_rules | `(tactic| trivial) => `(tactic| ((with_reducible apply lt_and); · exact rfl))
local macro_rules | `(tactic| trivial) => `(tactic| ((with_reducible apply ex_and); · exact rfl))
local macro_rules | `(tactic| trivial) => `(tactic| (((with_reducible apply eq_and); · exact rfl); try dsimp only [r0, r1, r2, r3, r4, x1, x2]))
local macro_rules | `(tactic| trivial) => `(tactic| with_reducible refine ⟨_, opd_I0, ?_⟩)
local macro_rules | `(tactic| trivial) => `(tactic| with_reducible refine ⟨_, opd_B0, ?_⟩)
local macro_rules | `(tactic| trivial) => `(tactic| with_reducible refine ⟨_, opd_isN, ?_⟩)
local macro_rules | `(tactic| trivial) => `(tactic| with_reducible refine ⟨_, opd_notN, ?_⟩)
local macro_rules | `(tactic| trivial) => `(tactic| with_reducible refine ⟨_, opd_isB, ?_⟩)
local macro_rules | `(tactic| trivial) => `(tactic| with_reducible refine ⟨_, opd_eqI, ?_⟩)
local macro_rules | `(tactic| trivial) => `(tactic| with_reducible refine ⟨_, opd_neI, ?_⟩)
local macro_rules | `(tactic| trivial) => `(tactic| ((with_reducible apply ite_t); · exact rfl))
local macro_rules | `(tactic| trivial) => `(tactic| ((with_reducible apply ite_f); · exact rfl))
local macro_rules | `(tactic| trivial) => `(tactic| with_reducible refine sv_seq ?_)
local macro_rules | `(tactic| trivial) => `(tactic| with_reducible refine tgl_nil ?_)
local macro_rules | `(tactic| trivial) => `(tactic| with_reducible apply tgl_cons)
local macro_rules | `(tactic| trivial) => `(tactic| ((with_reducible apply tg_tup); · exact rfl))
local macro_rules | `(tactic| trivial) => `(tactic| ((with_reducible apply tg_sqt); · exact rfl))
local macro_rules | `(tactic| trivial) => `(tactic| ((with_reducible refine tg_name ?_ ?_); · exact Nat.le_of_ble_eq_true rfl))
local macro_rules | `(tactic| trivial) => `(tactic| with_reducible refine sv_drop (te := tCallS _ _ _) ?_)
local macro_rules | `(tactic| trivial) => `(tactic| with_reducible refine sv_asg (te := tOp _ _ _) ?_)
local macro_rules | `(tactic| trivial) => `(tactic| with_reducible refine sv_asg (te := tCall _ _ _ _) ?_)
local macro_rules | `(tactic| trivial) => `(tactic| with_reducible refine sv_asg (te := tCallS _ _ _) ?_)
local macro_rules | `(tactic| trivial) => `(tactic| with_reducible refine sv_asg (te := tIf _ _ _) ?_)
local macro_rules | `(tactic| trivial) => `(tactic| with_reducible refine sv_asg (te := tVar _) ?_)
local macro_rules | `(tactic| trivial) => `(tactic| with_reducible refine sv_asg (te := tC _) ?_)
local macro_rules | `(tactic| trivial) => `(tactic| with_reducible refine sv_asg (te := tTup _) ?_)
local macro_rules | `(tactic| trivial) => `(tactic| with_reducible refine sv_asg (te := tAndV _ _) ?_)
local macro_rules | `(tactic| trivial) => `(tactic| with_reducible refine sv_asg (te := tOrV _ _) ?_)
local macro_rules | `(tactic| trivial) => `(tactic| with_reducible refine sv_asg (te := tNotV _) ?_)
local macro_rules | `(tactic| trivial) => `(tactic| with_reducible refine sv_asg (te := tDGet _ _) ?_)
local macro_rules | `(tactic| trivial) => `(tactic| with_reducible refine sv_asg (te := tUn _ _) ?_)
local macro_rules | `(tactic| trivial) => `(tactic| with_reducible apply sv_asgTp)
local macro_rules | `(tactic| trivial) => `(tactic| ((with_reducible apply ev_box0); · exact rfl))
local macro_rules | `(tactic| trivial) => `(tactic| ((with_reducible apply ev_box1); · exact rfl))
local macro_rules | `(tactic| trivial) => `(tactic| ((with_reducible apply ev_box2); · exact rfl))
local macro_rules | `(tactic| trivial) => `(tactic| ((with_reducible apply ev_box3); · exact rfl))
local macro_rules | `(tactic| trivial) => `(tactic| with_reducible apply sv_asgLp)
local macro_rules | `(tactic| trivial) => `(tactic| ((with_reducible apply tg_lst); · exact rfl))
abbrev s__law_same : Stmt := topS 37
theorem sc__law_same : FnScope ["given", "due", "k"] ["given", "due"] (defScope s__law_same) := ⟨rfl, rfl, rfl, by decide +kernel, rfl, by decide +kernel, by decide +kernel⟩
def told : Str := "told"
def smo : Nat → Dt → Bool
  | 0, _ => false
  | _ + 1, .non => true
  | _ + 1, .bl _ => true
  | _ + 1, .int _ => true
  | _ + 1, .str s => decide (s = told)
  | n + 1, .lst l => decide (l.length ≤ 1000) && l.all (smo n)
  | n + 1, .tup l => decide (l.length ≤ 1000) && l.all (smo n)
  | _ + 1, _ => false
section
variable {P : Program} {w : World} {K : PySem.W.Frag} {mg : Str → Option Value} {base : Heap} {f : Addr} {fd : FuncData}
abbrev p_same (K : PySem.W.Frag) (n : Nat) : Sp := Pu K 2 (r2 fun a b Ψ => a = b ∧ smo n a = true ∧ Ψ (.bl true))
theorem same_step (B : Bi mg) (F : TopD K mg "_law_same" s__law_same ["given", "due"] f fd) (n : Nat) (D__law_same : DefOk P w K mg base CX0 n "_law_same" ["given", "due"] (p_same K n)) : DefOk P w K mg base CX0 (n + 1) "_law_same" ["given", "due"] (p_same K (n + 1)) := by
  refine F.ok (F.fn.ok sc__law_same (fun _ _ _ _ => Pu.len) (fun cdv A outer s H vs Q E hr h => ⟨_, (pss_cons (ps_if (PW.pt (pw_or (pt_cmpR op_isN (pv 1) pe_non (nomark _)) (pw_or1 (pt_val (pe_b (kIsi (K := K) rfl) B.isinstance (pa_cons (pv 1) (pa_cons (pe_ty "bool" B.bool) pa_nil))))))) (pss_one (ps_ret (pe_ifExp (pt_cmpR op_isN (pv 1) pe_non (nomark _)) (pe_cmpR op_isN (pv 0) pe_non (nomark _)) (pe_and (pe_b (kIsi (K := K) rfl) B.isinstance (pa_cons (pv 0) (pa_cons (pe_ty "bool" B.bool) pa_nil))) (pe_one (pe_cmpR op_eq (pe_cmpR op_isBl (pv 0) pe_bl (nomark _)) (pe_cmpR op_isBl (pv 1) pe_bl (nomark _)) (nomark _))))))) pss_nil)
      (pss_cons (ps_if (pt_val (pe_b (kIsi (K := K) rfl) B.isinstance (pa_cons (pv 1) (pa_cons (pe_ty "int" B.int) pa_nil)))) (pss_one (ps_ret (pe_and (pe_b (kIsi (K := K) rfl) B.isinstance (pa_cons (pv 0) (pa_cons (pe_ty "int" B.int) pa_nil))) (pe_and (pe_not (pe_b (kIsi (K := K) rfl) B.isinstance (pa_cons (pv 0) (pa_cons (pe_ty "bool" B.bool) pa_nil)))) (pe_one (pe_cmpR op_eq (pe_op op_sub (pe_t call_int1 B.int (pa_cons (pv 0) pa_nil)) (pv 1)) pe_int (nomark _))))))) pss_nil)
      (pss_cons (ps_if (pt_val (pe_b (kIsi (K := K) rfl) B.isinstance (pa_cons (pv 1) (pa_cons (pe_ty "str" B.str) pa_nil)))) (pss_one (ps_ret (pe_and (pe_b (kIsi (K := K) rfl) B.isinstance (pa_cons (pv 0) (pa_cons (pe_ty "str" B.str) pa_nil))) (pe_and (pe_cmpR op_eq (pe_b (kLen (K := K) rfl) B.len (pa_cons (pv 0) pa_nil)) (pe_b (kLen (K := K) rfl) B.len (pa_cons (pv 1) pa_nil)) (nomark _)) (pe_one (pe_cmpR (kEqD (K := K) rfl hr) (pe_lc (own := [("k", 2)]) (g := (gName 2)) (tt := _) rfl sc__law_same.nd (pi_range1 (by rfl) B.range (pa_cons (pe_b (kLen (K := K) rfl) B.len (pa_cons (pv 1) pa_nil)) pa_nil)) (blkOk_by (own := [("k", 2)]) (N := ["given", "due", "k"]) (sc := defScope s__law_same) (by decide +kernel)) (fun _ _ _ _ _ => (pg_name (i := 2) sc__law_same.nd rfl (.inl rfl))) (fun _ _ _ _ _ => (pts_one (pt_cmpR op_ne (pe_slice sl_str (pv 0) (po_some (pv 2)) (po_some (pe_op op_add (pv 2) pe_int))) (pe_ix (kIx (K := K) rfl) (pv 1) (pv 2) (fun _ _ => rfl)) (nomark _)))) (fun _ _ _ _ _ => (pv 2))) (pe_lst pa_nil) (nomark _))))))) pss_nil)
      (pss_cons (ps_if (PW.pt (pw_or (pt_cmpR op_ne (pe_b (kIsi (K := K) rfl) B.isinstance (pa_cons (pv 0) (pa_cons (pe_ty "list" B.list) pa_nil))) (pe_b (kIsi (K := K) rfl) B.isinstance (pa_cons (pv 1) (pa_cons (pe_ty "list" B.list) pa_nil))) (nomark _)) (pw_or1 (pt_cmpR op_ne (pe_b (kIsi (K := K) rfl) B.isinstance (pa_cons (pv 0) (pa_cons (pe_ty "tuple" B.tuple) pa_nil))) (pe_b (kIsi (K := K) rfl) B.isinstance (pa_cons (pv 1) (pa_cons (pe_ty "tuple" B.tuple) pa_nil))) (nomark _))))) (pss_one (ps_ret pe_bl)) pss_nil)
      (pss_one (ps_ret (pe_and (pe_cmpR op_eq (pe_b (kLen (K := K) rfl) B.len (pa_cons (pv 0) pa_nil)) (pe_b (kLen (K := K) rfl) B.len (pa_cons (pv 1) pa_nil)) (nomark _)) (pe_one (pe_cmpR (kEqD (K := K) rfl hr) (pe_lc (own := [("k", 2)]) (g := (gName 2)) (tt := _) rfl sc__law_same.nd (pi_range1 (by rfl) B.range (pa_cons (pe_b (kLen (K := K) rfl) B.len (pa_cons (pv 1) pa_nil)) pa_nil)) (blkOk_by (own := [("k", 2)]) (N := ["given", "due", "k"]) (sc := defScope s__law_same) (by decide +kernel)) (fun _ _ _ _ _ => (pg_name (i := 2) sc__law_same.nd rfl (.inl rfl))) (fun _ _ _ _ _ => (pts_one (pt_not (pt_val (pe_d D__law_same hr pass0 (pa_cons (pe_ix (kIx (K := K) rfl) (pv 0) (pv 2) (fun _ _ => rfl)) (pa_cons (pe_ix (kIx (K := K) rfl) (pv 1) (pv 2) (fun _ _ => rfl)) pa_nil)) (hk := Nat.le_refl _)))))) (fun _ _ _ _ _ => (pv 2))) (pe_lst pa_nil) (nomark _)))))))))),
    pu_start h (by decide) fun r ds Ψ hl hR => ?_⟩))
  try dsimp only [cxOf, Cx.nox]
  obtain ⟨a, b, rfl⟩ := ds2 hl
  dsimp only [r2] at hR
  obtain ⟨rfl, hs, hR⟩ := hR
  cases a with
  | non => repeat trivial
  | bl c =>
    repeat trivial
    refine ⟨_, opd_eqB, ?_⟩
    rw [decide_eq_true rfl]
    exact hR
  | int i =>
    repeat trivial
    refine ⟨_, cbd_int, ?_⟩
    repeat trivial
    rw [decide_eq_true (Int.sub_self i)]
    exact hR
  | str z =>
    have hz : z = told := of_decide_eq_true hs
    subst hz
    repeat trivial
    refine ⟨_, cbd_lenS (by decide), ?_⟩
    repeat trivial
    refine ⟨_, cbd_lenS (by decide), ?_⟩
    refine ⟨_, opd_eqI, _, rfl, ite_t (decide_eq_true rfl) ?_⟩
    repeat trivial
    refine EvN.ev (en_lcF (js := [2]) (fun _ h => h) (src_range ?_))
    repeat trivial
    refine ⟨_, cbd_lenS (by decide), ?_⟩
    refine ea_nil ⟨_, rfl, by decide, by decide, by decide, rfl, fun _ => none, fun i hi => tg_name (Nat.le_of_ble_eq_true rfl) ?_, ?_⟩
    · have hi' : i < 4 := hi
      have hc : ∃ c, atI told.cps.toList (i : Int) = some c ∧ cutS told (some (i : Int)) (some ((i : Int) + 1)) = ⟨#[c]⟩ := by
        have h4 : i = 0 ∨ i = 1 ∨ i = 2 ∨ i = 3 := by omega
        rcases h4 with rfl | rfl | rfl | rfl <;> exact ⟨_, rfl, rfl⟩
      obtain ⟨c, c1, c2⟩ := hc
      repeat trivial
      refine ev_slS ?_
      repeat trivial
      refine eo_at ?_
      repeat trivial
      refine eo_at ?_
      repeat trivial
      refine ⟨_, opd_ixS (by decide) c1, _, opd_neS, _, rfl, ite_f (by rw [c2, decide_eq_true rfl]; rfl) ⟨rfl, rfl⟩⟩
    · have e : (List.range (told.length : Int).toNat).filterMap (fun _ => (none : Option Dt)) = [] := List.filterMap_eq_nil_iff.mpr fun _ _ => rfl
      rw [e]
      refine EvN.ev (en_lst ?_)
      repeat trivial
      refine ⟨_, opd_eqL 1 rfl rfl, ?_⟩
      rw [eqv_nil]
      exact hR
  | lst l =>
    have hs' : (decide (l.length ≤ 1000) && l.all (smo n)) = true := hs
    rw [Bool.and_eq_true] at hs'
    repeat trivial
    refine ⟨_, opd_neB, _, rfl, ite_f (by rw [decide_eq_true rfl]; rfl) ?_⟩
    repeat trivial
    refine ⟨_, opd_neB, _, rfl, ite_f (by rw [decide_eq_true rfl]; rfl) ?_⟩
    repeat trivial
    have q : SeqD (.lst l) l := by constructor
    have hl : l.length ≤ 1000 := of_decide_eq_true hs'.1
    have hall : ∀ d ∈ l, smo n d = true := List.all_eq_true.mp hs'.2
    refine ⟨_, cbd_len q, ?_⟩
    repeat trivial
    refine ⟨_, cbd_len q, ?_⟩
    refine ⟨_, opd_eqI, _, rfl, ite_t (decide_eq_true rfl) ?_⟩
    repeat trivial
    refine EvN.ev (en_lcF (js := [2]) (fun _ h => h) (src_range ?_))
    repeat trivial
    refine ⟨_, cbd_len q, ?_⟩
    repeat trivial
    refine ⟨by omega, by omega, by omega, rfl, fun _ => none, fun i hi => tg_name (Nat.le_of_ble_eq_true rfl) ?_, ?_⟩
    · have hi' : i < l.length := by omega
      repeat trivial
      refine ⟨_, opd_ix q (by rw [atI_ok hi', List.getElem?_eq_getElem hi']), ?_⟩
      repeat trivial
      refine ⟨_, opd_ix q (by rw [atI_ok hi', List.getElem?_eq_getElem hi']), ?_⟩
      repeat trivial
      refine ⟨hall _ (List.getElem_mem hi'), ?_⟩
      repeat trivial
    · have e : (List.range (l.length : Int).toNat).filterMap (fun _ => (none : Option Dt)) = [] := List.filterMap_eq_nil_iff.mpr fun _ _ => rfl
      rw [e]
      refine EvN.ev (en_lst ?_)
      repeat trivial
      refine ⟨_, opd_eqL 1 rfl rfl, ?_⟩
      rw [eqv_nil]
      exact hR
  | tup l =>
    have hs' : (decide (l.length ≤ 1000) && l.all (smo n)) = true := hs
    rw [Bool.and_eq_true] at hs'
    repeat trivial
    refine ⟨_, opd_neB, _, rfl, ite_f (by rw [decide_eq_true rfl]; rfl) ?_⟩
    repeat trivial
    refine ⟨_, opd_neB, _, rfl, ite_f (by rw [decide_eq_true rfl]; rfl) ?_⟩
    repeat trivial
    have q : SeqD (.tup l) l := by constructor
    have hl : l.length ≤ 1000 := of_decide_eq_true hs'.1
    have hall : ∀ d ∈ l, smo n d = true := List.all_eq_true.mp hs'.2
    refine ⟨_, cbd_len q, ?_⟩
    repeat trivial
    refine ⟨_, cbd_len q, ?_⟩
    refine ⟨_, opd_eqI, _, rfl, ite_t (decide_eq_true rfl) ?_⟩
    repeat trivial
    refine EvN.ev (en_lcF (js := [2]) (fun _ h => h) (src_range ?_))
    repeat trivial
    refine ⟨_, cbd_len q, ?_⟩
    repeat trivial
    refine ⟨by omega, by omega, by omega, rfl, fun _ => none, fun i hi => tg_name (Nat.le_of_ble_eq_true rfl) ?_, ?_⟩
    · have hi' : i < l.length := by omega
      repeat trivial
      refine ⟨_, opd_ix q (by rw [atI_ok hi', List.getElem?_eq_getElem hi']), ?_⟩
      repeat trivial
      refine ⟨_, opd_ix q (by rw [atI_ok hi', List.getElem?_eq_getElem hi']), ?_⟩
      repeat trivial
      refine ⟨hall _ (List.getElem_mem hi'), ?_⟩
      repeat trivial
    · have e : (List.range (l.length : Int).toNat).filterMap (fun _ => (none : Option Dt)) = [] := List.filterMap_eq_nil_iff.mpr fun _ _ => rfl
      rw [e]
      refine EvN.ev (en_lst ?_)
      repeat trivial
      refine ⟨_, opd_eqL 1 rfl rfl, ?_⟩
      rw [eqv_nil]
      exact hR
  | sq l => cases hs
  | sqt l => cases hs
  | dk l => cases hs
  | dt l => cases hs
theorem d__law_same (B : Bi mg) (F : TopD K mg "_law_same" s__law_same ["given", "due"] f fd) : ∀ n, DefOk P w K mg base CX0 n "_law_same" ["given", "due"] (p_same K n)
  | 0 => by
    refine F.ok ⟨fun _ _ _ _ => Pu.len, fun A outer s H args us vs Q E hr he hb hv h => ?_⟩
    obtain ⟨G, ds, Ψ, s, D, hl, hR, q⟩ := h
    obtain ⟨a, b, rfl⟩ := ds2 hl
    exact absurd hR.2.1 Bool.false_ne_true
  | n + 1 => same_step B F n (d__law_same B F n)
end
end Cp
/-! K81n: asked -/
namespace Cp
open PySem PySem.Spec PyProof.Rows L2
local macro_rules | `(tactic| trivial) => `(tactic| with_reducible refine ea_nil ?_)
local macro_rules | `(tactic| trivial) => `(tactic| with_reducible refine ea_cons ?_)
local macro_rules | `(tactic| trivial) => `(tactic| with_reducible refine et_test ?_)
local macro_rules | `(tactic| trivial) => `(tactic| with_reducible refine et_yes ?_)
local macro_rules | `(tactic| trivial) => `(tactic| with_reducible refine et_B ?_)
local macro_rules | `(tactic| trivial) => `(tactic| with_reducible refine ev_lenS ?_)
local macro_rules | `(tactic| trivial) => `(tactic| with_reducible refine et_and ?_)
local macro_rules | `(tactic| trivial) => `(tactic| with_reducible refine et_or ?_)
local macro_rules | `(tactic| trivial) => `(tactic| with_reducible refine et_not ?_)
local macro_rules | `(tactic| trivial) => `(tactic| with_reducible refine ev_if ?_)
local macro_rules | `(tactic| trivial) => `(tactic| with_reducible refine ev_chain ?_)
local macro_rules | `(tactic| trivial) => `(tactic| with_reducible refine ev_and ?_)
local macro_rules | `(tactic| trivial) => `(tactic| with_reducible refine ev_or ?_)
local macro_rules | `(tactic| trivial) => `(tactic| with_reducible refine ev_not ?_)
local macro_rules | `(tactic| trivial) => `(tactic| with_reducible refine ev_op ?_)
local macro_rules | `(tactic| trivial) => `(tactic| with_reducible refine ev_cb ?_)
local macro_rules | `(tactic| trivial) => `(tactic| with_reducible refine ev_isi kit_int ?_)
local macro_rules | `(tactic| trivial) => `(tactic| with_reducible refine ev_isi kit_bool ?_)
local macro_rules | `(tactic| trivial) => `(tactic| with_reducible refine ev_isi kit_str ?_)
local macro_rules | `(tactic| trivial) => `(tactic| with_reducible refine ev_isi kit_list ?_)
local macro_rules | `(tactic| trivial) => `(tactic| with_reducible refine ev_isi kit_tuple ?_)
local macro_rules | `(tactic| trivial) => `(tactic| with_reducible refine ev_isi2 kit_list kit_tuple ?_)
local macro_rules | `(tactic| trivial) => `(tactic| with_reducible refine ev_call ?_)
local macro_rules | `(tactic| trivial) => `(tactic| with_reducible refine ev_tup ?_)
local macro_rules | `(tactic| trivial) => `(tactic| with_reducible refine ev_i ?_)
local macro_rules | `(tactic| trivial) => `(tactic| with_reducible refine ev_b ?_)
local macro_rules | `(tactic| trivial) => `(tactic| with_reducible refine ev_n ?_)
local macro_rules | `(tactic| trivial) => `(tactic| with_reducible refine ev_s ?_)
local macro_rules | `(tactic| trivial) => `(tactic| ((with_reducible apply ev_var); · exact rfl))
local macro_rules | `(tactic| trivial) => `(tactic| ((with_reducible apply ev_varV); (· exact rfl); (· assumption)))
local macro_rules | `(tactic| trivial) => `(tactic| with_reducible refine sv_ret ?_)
local macro_rules | `(tactic| trivial) => `(tactic| with_reducible refine sv_if ?_)
local macro_rules | `(tactic| trivial) => `(tactic| (with_reducible refine sv_nx ?_))
local macro_rules | `(tactic| trivial) => `(tactic| ((with_reducible apply le_and); · exact rfl))
local macro_rules | `(tactic| trivial) => `(tactic| ((with_reducible apply lt_and); · exact rfl))
local macro_rules | `(tactic| trivial) => `(tactic| ((with_reducible apply ex_and); · exact rfl))
local macro_rules | `(tactic| trivial) => `(tactic| (((with_reducible apply eq_and); · exact rfl); try dsimp only [r0, r1, r2, r3, r4, x1, x2]))
local macro_rules | `(tactic| trivial) => `(tactic| with_reducible refine ⟨_, opd_I0, ?_⟩)
local macro_rules | `(tactic| trivial) => `(tactic| with_reducible refine ⟨_, opd_B0, ?_⟩)
local macro_rules | `(tactic| trivial) => `(tactic| with_reducible refine ⟨_, opd_isN, ?_⟩)
local macro_rules | `(tactic| trivial) => `(tactic| with_reducible refine ⟨_, opd_notN, ?_⟩)
local macro_rules | `(tactic| trivial) => `(tactic| with_reducible refine ⟨_, opd_isB, ?_⟩)
local macro_rules | `(tactic| trivial) => `(tactic| with_reducible refine ⟨_, opd_eqI, ?_⟩)
local macro_rules | `(tactic| trivial) => `(tactic| with_reducible refine ⟨_, opd_neI, ?_⟩)
local macro_rules | `(tactic| trivial) => `(tactic| ((with_reducible apply ite_t); · exact rfl))
local macro_rules | `(tactic| trivial) => `(tactic| ((with_reducible apply ite_f); · exact rfl))
local macro_rules | `(tactic| trivial) => `(tactic| with_reducible refine sv_seq ?_)
local macro_rules | `(tactic| trivial) => `(tactic| with_reducible refine tgl_nil ?_)
local macro_rules | `(tactic| trivial) => `(tactic| with_reducible apply tgl_cons)
local macro_rules | `(tactic| trivial) => `(tactic| ((with_reducible apply tg_tup); · exact rfl))
local macro_rules | `(tactic| trivial) => `(tactic| ((with_reducible apply tg_sqt); · exact rfl))
local macro_rules | `(tactic| trivial) => `(tactic| ((with_reducible refine tg_name ?_ ?_); · exact Nat.le_of_ble_eq_true rfl))
local macro_rules | `(tactic| trivial) => `(tactic| with_reducible refine sv_drop (te := tCallS _ _ _) ?_)
local macro_rules | `(tactic| trivial) => `(tactic| with_reducible refine sv_asg (te := tOp _ _ _) ?_)
local macro_rules | `(tactic| trivial) => `(tactic| with_reducible refine sv_asg (te := tCall _ _ _ _) ?_)
local macro_rules | `(tactic| trivial) => `(tactic| with_reducible refine sv_asg (te := tCallS _ _ _) ?_)
local macro_rules | `(tactic| trivial) => `(tactic| with_reducible refine sv_asg (te := tIf _ _ _) ?_)
local macro_rules | `(tactic| trivial) => `(tactic| with_reducible refine sv_asg (te := tVar _) ?_)
local macro_rules | `(tactic| trivial) => `(tactic| with_reducible refine sv_asg (te := tC _) ?_)
local macro_rules | `(tactic| trivial) => `(tactic| with_reducible refine sv_asg (te := tTup _) ?_)
local macro_rules | `(tactic| trivial) => `(tactic| with_reducible refine sv_asg (te := tAndV _ _) ?_)
local macro_rules | `(tactic| trivial) => `(tactic| with_reducible refine sv_asg (te := tOrV _ _) ?_)
local macro_rules | `(tactic| trivial) => `(tactic| with_reducible refine sv_asg (te := tNotV _) ?_)
local macro_rules | `(tactic| trivial) => `(tactic| with_reducible refine sv_asg (te := tDGet _ _) ?_)
local macro_rules | `(tactic| trivial) => `(tactic| with_reducible refine sv_asg (te := tUn _ _) ?_)
local macro_rules | `(tactic| trivial) => `(tactic| with_reducible apply sv_asgTp)
local macro_rules | `(tactic| trivial) => `(tactic| ((with_reducible apply ev_box0); · exact rfl))
local macro_rules | `(tactic| trivial) => `(tactic| ((with_reducible apply ev_box1); · exact rfl))
local macro_rules | `(tactic| trivial) => `(tactic| ((with_reducible apply ev_box2); · exact rfl))
local macro_rules | `(tactic| trivial) => `(tactic| ((with_reducible apply ev_box3); · exact rfl))
local macro_rules | `(tactic| trivial) => `(tactic| with_reducible apply sv_asgLp)
local macro_rules | `(tactic| trivial) => `(tactic| ((with_reducible apply tg_lst); · exact rfl))
abbrev s__law_asked : Stmt := topS 54
theorem sc__law_asked : FnScope ["way", "answers", "lot", "e"] ["way", "answers", "lot"] (defScope s__law_asked) := ⟨rfl, rfl, rfl, by decide +kernel, rfl, by decide +kernel, by decide +kernel⟩
section
variable {P : Program} {w : World} {K : PySem.W.Frag} {mg : Str → Option Value} {base : Heap} {f : Addr} {fd : FuncData} {mc : Value}
theorem takes_noW {X : Cx} : Takes X noW := fun u s' x => by
  obtain ⟨a, B, sI, pins', σ', H', cls, d, rfl, J', nb, up, sky, na, os, ag, h⟩ := x
  exact h.elim
def sAns : Str := "answers"
def sLot : Str := "lot"
/-- what _law_asked gives: told, a new list of lots, or the class's sign and the very value -/
def rAsked (i : Int) (a l : Dt) (va vl : V) (Ψ : Dt → Prop) (Ψ1 : List Dt → Prop) (Ψx : Str → V → Prop) : Prop :=
  small3 a ∧ ((i = 0 ∧ (isAnsW a = true → Ψ (.lst [.str told, .bl (fitsB (bdA a))])) ∧ (isAnsW a = false → Ψx sAns va)) ∨
    (i = 1 ∧ (goodA a = true → Ψ1 ((openL (bdA a)).map (dtQ true))) ∧ (goodA a = false → Ψx sAns va)) ∨
    (i = 2 ∧ small1 l ∧ (goodA a = true → isAsk l = true → Ψ (.lst [.str told, .tup [.int (lowestB (bdA a) (lotN (l.items.map Dt.toI))), oi (topsB (bdA a) (lotN (l.items.map Dt.toI)))]])) ∧
      (goodA a = true → isAsk l = false → Ψx sLot vl) ∧ (goodA a = false → Ψx sAns va)))
def p_asked (K : PySem.W.Frag) : Sp := fun vs H Q _ => ∃ G i a l va vl Ψ Ψ1 Ψx, vs = [.int i, va, vl] ∧ Same G H ∧ Da K G va a ∧ Da K G vl l ∧ rAsked i a l va vl Ψ Ψ1 Ψx ∧ (∀ d, Ψ d → ∀ v G' H', Ext G H G' H' → Da K G' v d → Q v H') ∧
  (∀ es, Ψ1 es → ∀ p q xs G' H', Ext G H G' H' → H p = none → H q = none → p ≠ q → G' p = none → G' q = none → H' p = some (.lst [.str told, .ref q]) → H' q = some (.lst xs) → DaL K G' xs es → Q (.ref p) H') ∧
  ∀ x v, Ψx x v → ∀ p G' H', Ext G H G' H' → H p = none → G' p = none → H' p = some (.lst [.str x, v]) → Q (.ref p) H'
def tbA (K : PySem.W.Frag) (CA CL : Addr) (W : WX) : TS :=
  tSeq (tIfS (tTest (tOp rEq (tVar 0) (tC (V.int 0)))) (tRet (tLst (tCons (tC (V.str (Str.ofString "told"))) (tCons (tCallS (p_possible K CA) (WE W) (tCons (tVar 1) tNil)) tNil)))) tNext)
    (tRet (tLst (tCons (tC (V.str (Str.ofString "told"))) (tCons (tIf (tTest (tOp rEq (tVar 0) (tC (V.int 1)))) (tCallS (p_open_lots K CA) (WE W) (tCons (tVar 1) tNil)) (tCallS (p_between K CA CL) (WE W) (tCons (tVar 1) (tCons (tVar 2) tNil)))) tNil))))
def xiA (CA CL : Addr) (va vl : V) (Ψx : Str → V → Prop) : Addr → V → Prop := fun C v => (C = CA ∧ v = va ∧ Ψx sAns va) ∨ (C = CL ∧ v = vl ∧ Ψx sLot vl)
/-- the try's body, the exceptions as W says -/
theorem asked_run {CA CL : Addr} {i : Int} {a l : Dt} {va vl : V} {Ψ : Dt → Prop} {Ψ1 : List Dt → Prop} {Ψx : Str → V → Prop} {G H : Hp} {Q : VK} {W : WX} (s : Same G H) (Dx : Da K G va a) (Dl : Da K G vl l) (hR : rAsked i a l va vl Ψ Ψ1 Ψx)
    (k : ∀ d, Ψ d → ∀ v G' H', Ext G H G' H' → Da K G' v d → Q v H')
    (k1 : ∀ es, Ψ1 es → ∀ p q xs G' H', Ext G H G' H' → H p = none → H q = none → p ≠ q → G' p = none → G' q = none → H' p = some (.lst [.str told, .ref q]) → H' q = some (.lst xs) → DaL K G' xs es → Q (.ref p) H')
    (hW : WV (Rs.at ⟨G, H, G, ghAll H⟩ K W noX) 4 (xiA CA CL va vl Ψx)) :
    tbA K CA CL W { nx := fun _ H' => Q .non H', rt := Q } (L2.start ["way", "answers", "lot", "e"] [.int i, va, vl]) H := by
  have D3 : DaL K G [.int i, va, vl] [.int i, a, l] := ⟨_, _, rfl, rfl, va, _, rfl, Dx, vl, [], rfl, Dl, rfl⟩
  have S := sl_startV (N := ["way", "answers", "lot", "e"]) s D3 (Nat.le_of_ble_eq_true rfl) (ghAll H) (Same.refl H) fun _ z => z
  have w0 : Wy (Rs.at ⟨G, H, G, ghAll H⟩ K W noX) G (ghAll H) := ⟨fun _ _ _ _ _ _ _ _ z => z.elim, Same.refl _, Same.refl _, fun _ z => z⟩
  have fin : ∀ {G' H' : Hp} {σ' : L2.St} {Γ' : Env}, Sl (Cs.b (Rs.at ⟨G, H, G, ghAll H⟩ K W noX) G (ghAll H)) G' H' σ' Γ' → Ext G H G' H' := fun {G' H' σ' Γ'} S' => ⟨S'.gx, S'.hx, S'.gh, S'.ff⟩
  have hi : Da (Rs.at ⟨G, H, G, ghAll H⟩ K W noX).K (Rs.at ⟨G, H, G, ghAll H⟩ K W noX).Gx (.int i) (.int i) := rfl
  obtain ⟨hs, ⟨rfl, h1, h2⟩ | ⟨rfl, h1, h2⟩ | ⟨rfl, hl, h1, h2, h3⟩⟩ := hR
  · have q : Sv (Rs.at ⟨G, H, G, ghAll H⟩ K W noX) (tbA K CA CL W) (envV [.int 0, va, vl] 1) { nx := fun _ => False, rt := fun d _ => Ψ d } := by
      unfold tbA
      refine sv_seq (sv_if (et_test (ev_op (ev_varV rfl hi (ev_i ⟨_, opd_eqI, _, rfl, ite_t rfl ?_⟩)))))
      refine sv_ret (EvN.ev (en_lst ?_))
      refine ea_cons (ev_s (ea_cons ?_))
      refine ev_callV1 hW Dx rfl ⟨hs, fun ha => ?_, fun ha => .inl ⟨rfl, rfl, h2 ha⟩⟩
      exact ea_nil ⟨Nat.le_of_ble_eq_true rfl, h1 ha⟩
    exact q G (ghAll H) w0 G H _ _ S (fun _ _ _ _ z => z.elim) (fun d v Γ' G' H' σ' hp _ S' D' => k d hp v G' H' (fin S') D') (fun _ _ _ _ z => z.elim) (fun _ _ _ _ z => z.elim)
  · have q1 : Sv (Rs.at ⟨G, H, G, ghAll H⟩ K W noX) (tIfS (tTest (tOp rEq (tVar 0) (tC (V.int 0)))) (tRet (tLst (tCons (tC (V.str (Str.ofString "told"))) (tCons (tCallS (p_possible K CA) (WE W) (tCons (tVar 1) tNil)) tNil)))) tNext) (envV [.int 1, va, vl] 1) { nx := fun Γ' => Γ' = envV [.int 1, va, vl] 1 } :=
      sv_if (et_test (ev_op (ev_varV rfl hi (ev_i ⟨_, opd_eqI, _, rfl, ite_f rfl (sv_nx rfl)⟩))))
    have q2 : EvN (Rs.at ⟨G, H, G, ghAll H⟩ K W noX) (tCallS (p_open_lots K CA) (WE W) (tCons (tVar 1) tNil)) (envV [.int 1, va, vl] 1) (fun ds _ => Ψ1 ds) :=
      en_callV1 hW Dx rfl ⟨hs, fun ha => h1 ha, fun ha => .inl ⟨rfl, rfl, h2 ha⟩⟩
    have q3 : EvT (Rs.at ⟨G, H, G, ghAll H⟩ K W noX) (tTest (tOp rEq (tVar 0) (tC (V.int 1)))) (envV [.int 1, va, vl] 1) (fun c Γ' => c = true ∧ Γ' = envV [.int 1, va, vl] 1) :=
      et_test (ev_op (ev_varV rfl hi (ev_i ⟨_, opd_eqI, _, rfl, rfl, rfl⟩)))
    refine q1 G (ghAll H) w0 G H _ { nx := fun σ H => tRet (tLst (tCons (tC (V.str (Str.ofString "told"))) (tCons (tIf (tTest (tOp rEq (tVar 0) (tC (V.int 1)))) (tCallS (p_open_lots K CA) (WE W) (tCons (tVar 1) tNil)) (tCallS (p_between K CA CL) (WE W) (tCons (tVar 1) (tCons (tVar 2) tNil)))) tNil))) { nx := fun _ H' => Q .non H', rt := Q } σ H, rt := Q } S (fun Γ1 G1 H1 σ1 e1 s1 S1 => ?_) (fun _ _ _ _ _ _ z => z.elim) (fun _ _ _ _ z => z.elim) (fun _ _ _ _ z => z.elim)
    subst e1
    refine q3 G (ghAll H) w0 G1 H1 σ1 S1 _ fun c Γ2 G2 H2 ⟨ec, e2⟩ s2 S2 => ?_
    subst ec e2
    refine q2 G (ghAll H) w0 G2 H2 σ1 S2 _ fun p xs es Γ3 G3 H3 hp s3 S3 N => ⟨(by show 2 ≤ sizeLine; decide), fun p' np => ?_⟩
    have ne : p' ≠ p := fun z => by
      rw [z, N.st] at np
      cases np
    exact k1 es hp p' p xs G3 _ ((fin S3).trans (Ext.newH S3.gh np)) (Classical.byContradiction fun z => S3.h1 p' z np) N.h0 ne (S3.gh.free np) N.g upd_same (by rw [upd_ne ne.symm]; exact N.st) N.da
  · have q : Sv (Rs.at ⟨G, H, G, ghAll H⟩ K W noX) (tbA K CA CL W) (envV [.int 2, va, vl] 1) { nx := fun _ => False, rt := fun d _ => Ψ d } := by
      unfold tbA
      refine sv_seq (sv_if (et_test (ev_op (ev_varV rfl hi (ev_i ⟨_, opd_eqI, _, rfl, ite_f rfl (sv_nx ?_)⟩)))))
      refine sv_ret (EvN.ev (en_lst ?_))
      refine ea_cons (ev_s (ea_cons (ev_if (et_test (ev_op (ev_varV rfl hi (ev_i ⟨_, opd_eqI, _, rfl, ite_f rfl ?_⟩)))))))
      refine ev_callV2 hW Dx Dl rfl rfl ⟨hs, hl, fun ha hk => ?_, fun ha hk => .inr ⟨rfl, rfl, h2 ha hk⟩, fun ha => .inl ⟨rfl, rfl, h3 ha⟩⟩
      exact ea_nil ⟨Nat.le_of_ble_eq_true rfl, h1 ha hk⟩
    exact q G (ghAll H) w0 G H _ _ S (fun _ _ _ _ z => z.elim) (fun d v Γ' G' H' σ' hp _ S' D' => k d hp v G' H' (fin S') D') (fun _ _ _ _ z => z.elim) (fun _ _ _ _ z => z.elim)
theorem d__law_asked {C_InvalidAnswers fA C_InvalidLot fL C_RoadError : Addr} (B : Bi mg) (T_InvalidAnswers : ErrC K mg "InvalidAnswers" C_InvalidAnswers fA) (T_InvalidLot : ErrC K mg "InvalidLot" C_InvalidLot fL) (T_RoadError : BaseC K mg "RoadError" C_RoadError mc)
    (xAA : PySem.W.exmOne K (.ref C_InvalidAnswers) (.ref C_InvalidAnswers) = some true) (xLA : PySem.W.exmOne K (.ref C_InvalidLot) (.ref C_InvalidAnswers) = some false) (xLL : PySem.W.exmOne K (.ref C_InvalidLot) (.ref C_InvalidLot) = some true)
    (D_possible : DefOk P w K mg base (L2.CX P w) 9 "possible" ["answers"] (p_possible K C_InvalidAnswers)) (D_between : DefOk P w K mg base (L2.CX P w) 10 "between" ["answers", "lot"] (p_between K C_InvalidAnswers C_InvalidLot)) (D_open_lots : DefOk P w K mg base (L2.CX P w) 10 "open_lots" ["answers"] (p_open_lots K C_InvalidAnswers))
    (F : TopD K mg "_law_asked" s__law_asked ["way", "answers", "lot"] f fd) : DefOk P w K mg base CX0 11 "_law_asked" ["way", "answers", "lot"] (p_asked K) := by
  refine F.ok (F.fn.ok sc__law_asked (fun vs H Q E h => ?_) (fun cdv A outer s H vs Q E hr h => ⟨_, (pss_one (ps_tryA rfl rfl (show (["way", "answers", "lot", "e"] : List Str).Nodup from by decide) takes_noW (fun W pn xe tk1 own1 => (pss_cons (ps_if (pt_cmpR op_eq (pv 0) pe_int (nomark _)) (pss_one (ps_ret (pe_lst (pa_cons pe_str (pa_cons (pe_dS D_possible hr (fun σ => passAt tk1 σ) (pa_cons (pv 1) pa_nil)) pa_nil))))) pss_nil)
      (pss_one (ps_ret (pe_lst (pa_cons pe_str (pa_cons (pe_ifExp (pt_cmpR op_eq (pv 0) pe_int (nomark _)) (pe_dS D_open_lots hr (fun σ => passAt tk1 σ) (pa_cons (pv 1) pa_nil)) (pe_dS D_between hr (fun σ => passAt tk1 σ) (pa_cons (pv 1) (pa_cons (pv 2) pa_nil)))) pa_nil)))))))
      (Clauses.named (i := 3) (c := .ref C_InvalidAnswers) ⟨rfl, by decide, .inl T_InvalidAnswers.g⟩ rfl rfl (fun ea eo cls d pn hz hd => (pss_one (ps_ret (pe_lst (pa_cons pe_str (pa_cons (pe_xf T_InvalidAnswers.x T_InvalidAnswers.n hz hd (pv 3)) pa_nil))))))
      (Clauses.named (i := 3) (c := .ref C_InvalidLot) ⟨rfl, by decide, .inl T_InvalidLot.g⟩ rfl rfl (fun ea eo cls d pn hz hd => (pss_one (ps_ret (pe_lst (pa_cons pe_str (pa_cons (pe_xf T_InvalidLot.x T_InvalidLot.n hz hd (pv 3)) pa_nil))))))
      (Clauses.bare (c := .ref C_RoadError) ⟨rfl, by decide, .inl T_RoadError.g⟩ (fun ea eo cls d pn hz hd => (pss_one (ps_ret (pe_lst (pa_cons pe_str (pa_cons pe_non pa_nil))))))
      Clauses.nil))))),
    ?_⟩))
  try dsimp only [cxOf, Cx.nox]
  · obtain ⟨G, i, a, l, va, vl, Ψ, Ψ1, Ψx, rfl, _⟩ := h
    rfl
  obtain ⟨G, i, a, l, va, vl, Ψ, Ψ1, Ψx, rfl, s, Dx, Dl, hR, k, k1, kx⟩ := h
  refine asked_run (K := K) (CA := C_InvalidAnswers) (CL := C_InvalidLot) s Dx Dl hR k k1 ?_
  rintro C v hx dd Γ' G' H' σ' h4 S' e
  have e0 : Ext G H G' H' := ⟨S'.gx, S'.hx, S'.gh, S'.ff⟩
  have s4 : ∀ u : Option V, (σ'.set 3 u)[3]? = some u := fun u => List.getElem?_set_self (by rw [← S'.len, h4]; decide)
  have fin : ∀ x, Ψx x v → ∀ p, H' p = none → Q (.ref p) (upd H' p (.lst [.str x, v])) := fun x hx p np =>
    kx x v hx p G' _ (e0.trans (Ext.newH S'.gh np)) (Classical.byContradiction fun z => S'.h1 p z np) (S'.gh.free np) upd_same
  have look : ([(gvn, v)] : List (Str × V)).lookup gvn = some v := by simp [List.lookup]
  rcases hx with ⟨rfl, rfl, hx⟩ | ⟨rfl, rfl, hx⟩
  · exact ⟨true, xAA, fun _ ea na => ⟨.ref ea, s4 _, rfl, rfl, dd, _, _, rfl, e, look, (by show 2 ≤ sizeLine; decide), fun p np => fin _ hx p np⟩, (fun z => nomatch z)⟩
  · exact ⟨false, xLA, (fun z => nomatch z), fun _ => ⟨true, xLL, fun _ ea na => ⟨.ref ea, s4 _, rfl, rfl, dd, _, _, rfl, e, look, (by show 2 ≤ sizeLine; decide), fun p np => fin _ hx p np⟩, (fun z => nomatch z)⟩⟩
end
end Cp
/-! K81o: the plain law: own lowering, own halving -/
namespace Cp
open PySem PySem.Spec PyProof.Rows L2
/-- x ≤ t -/
def leX (x : Int) (t : Option Int) : Prop := ∀ h, t = some h → x ≤ h
theorem leX_none (x : Int) : leX x none := fun _ h => nomatch h
theorem leX_some {x y : Int} : leX x (some y) ↔ x ≤ y := ⟨fun h => h y rfl, fun h z e => by cases e; exact h⟩
theorem leX_fit {x : Int} {t : Option Int} : fitO x t = true ↔ leX x t := by
  cases t with
  | none => exact ⟨fun _ => leX_none x, fun _ => rfl⟩
  | some h => exact ⟨fun q => leX_some.mpr (of_decide_eq_true q), fun q => decide_eq_true (leX_some.mp q)⟩
theorem leX_less {x : Int} {s t : Option Int} : leX x (lessO s t) ↔ leX x s ∧ leX x t := by
  cases s <;> cases t <;> simp [lessO, leX] <;> omega
theorem leX_sum_less {x : Int} {s t u : Option Int} : leX x (sumO (lessO s t) u) ↔ leX x (sumO s u) ∧ leX x (sumO t u) := by
  cases s <;> cases t <;> cases u <;> simp [lessO, sumO, leX] <;> omega
theorem sumO_comm {s t : Option Int} : sumO s t = sumO t s := by
  cases s <;> cases t <;> simp [sumO, Int.add_comm]
theorem ext_le {s t : Option Int} (h : ∀ x, leX x s ↔ leX x t) : s = t := by
  cases s with
  | none => cases t with
    | none => rfl
    | some b => exact absurd ((h (b + 1)).mp (leX_none _)) fun q => by have := leX_some.mp q; omega
  | some a => cases t with
    | none => exact absurd ((h (a + 1)).mpr (leX_none _)) fun q => by have := leX_some.mp q; omega
    | some b =>
      have h1 := (h a).mp (leX_some.mpr (Int.le_refl _))
      have h2 := (h b).mpr (leX_some.mpr (Int.le_refl _))
      rw [leX_some] at h1 h2
      rw [show a = b by omega]
def leO (s t : Option Int) : Prop := ∀ x, leX x s → leX x t
theorem leO.refl (s : Option Int) : leO s s := fun _ h => h
theorem leO.trans {s t u : Option Int} (a : leO s t) (b : leO t u) : leO s u := fun x h => b x (a x h)
theorem leO.antisymm {s t : Option Int} (a : leO s t) (b : leO t s) : s = t := ext_le fun x => ⟨a x, b x⟩
theorem leO_iff {s t : Option Int} : leO s t ↔ ∀ b, t = some b → ∃ a, s = some a ∧ a ≤ b := by
  constructor
  · intro h b e
    subst e
    cases s with
    | none => exact absurd (h (b + 1) (leX_none _)) fun q => by have := leX_some.mp q; omega
    | some a => exact ⟨a, rfl, leX_some.mp (h a (leX_some.mpr (Int.le_refl _)))⟩
  · intro h x q b e
    obtain ⟨a, e1, e2⟩ := h b e
    have := q a e1
    omega
theorem less_left (s t : Option Int) : leO (lessO s t) s := fun _ h => (leX_less.mp h).1
theorem less_right (s t : Option Int) : leO (lessO s t) t := fun _ h => (leX_less.mp h).2
theorem leO_lessO {s t u : Option Int} (a : leO s t) (b : leO s u) : leO s (lessO t u) := fun x h => leX_less.mpr ⟨a x h, b x h⟩
theorem sum_mono {s t s' t' : Option Int} (a : leO s s') (b : leO t t') : leO (sumO s t) (sumO s' t') := by
  rw [leO_iff] at *
  intro c e
  cases s' with
  | none => cases e
  | some p =>
    cases t' with
    | none => cases e
    | some q =>
      cases e
      obtain ⟨a1, e1, l1⟩ := a p rfl
      obtain ⟨b1, e2, l2⟩ := b q rfl
      exact ⟨a1 + b1, by rw [e1, e2]; rfl, by omega⟩
/-- not below 0 -/
def nn (t : Option Int) : Prop := ∀ h, t = some h → 0 ≤ h
theorem closed {x y z w v : Option Int} (hx : nn x) (hy : nn y) (hz : nn z) (hw : nn w) (hv : nn v) :
    leO (lessO x (sumO y z)) (sumO (lessO y (sumO x w)) (lessO z (sumO x v))) := by
  rw [leO_iff]
  intro b e
  cases x <;> cases y <;> cases z <;> cases w <;> cases v <;> simp [lessO, sumO] at e ⊢ <;> (try subst e) <;> simp_all [nn] <;> omega
/-- the bounds that answers give -/
def bdl (l : List An) : Bd := bnds (l.map fun a => (lotN a.lot, a.lo, a.hi))
theorem ikey_inj {x y : List Int} (h : ikey x = ikey y) : x = y := by
  unfold ikey at h
  exact (List.map_inj_right (fun a b z => Sum.inl.inj z)).mp h
theorem lotN_inj : ∀ x ∈ sixL, ∀ y ∈ sixL, lotN x = lotN y → x = y := by decide
theorem lotN_six' : ∀ x ∈ sixL, isSix (lotN x) := by unfold isSix; decide
theorem updT_at {T : Tp} {x y : List Int} {v : Option Int} : updT T (ikey x) v (ikey y) = if y = x then v else T (ikey y) := by
  unfold updT
  by_cases h : y = x
  · rw [if_pos (by rw [h]), if_pos h]
  · rw [if_neg fun z => h (ikey_inj z), if_neg h]
theorem bdl_init (l : List An) (hl : ∀ a ∈ l, a.lot ∈ sixL) : ∀ x ∈ sixL, (bdl l (lotN x)).2 = initT l (ikey x) := by
  have key : ∀ (l : List An) (b : Bd) (T : Tp), (∀ a ∈ l, a.lot ∈ sixL) → (∀ x ∈ sixL, (b (lotN x)).2 = T (ikey x)) →
      ∀ x ∈ sixL, (((l.map fun a => (lotN a.lot, a.lo, a.hi)).foldl (fun b a => upB b a.1 a.2) b) (lotN x)).2 = (l.foldl (fun T a => updT T (ikey a.lot) a.hi) T) (ikey x) := by
    intro l
    induction l with
    | nil => exact fun b T _ h => h
    | cons a l ih =>
      intro b T h1 h2
      rw [List.map_cons, List.foldl_cons, List.foldl_cons]
      refine ih _ _ (fun c hc => h1 c (List.mem_cons_of_mem _ hc)) fun x hx => ?_
      rw [updT_at]
      unfold upB
      by_cases e : x = a.lot
      · rw [if_pos (by rw [e]), if_pos e]
      · rw [if_neg fun z => e (lotN_inj x hx a.lot (h1 a List.mem_cons_self) z), if_neg e]
        exact h2 x hx
  exact key l _ _ hl fun x _ => rfl
/-- at each of the six: not below 0, the least not above the greatest -/
def okB (b : Bd) : Prop := ∀ n, isSix n → 0 ≤ (b n).1 ∧ leX (b n).1 (b n).2
def okL (l : List An) : Prop := (l.map (·.lot)).Nodup ∧ ∀ a ∈ l, a.lot ∈ sixL ∧ 0 ≤ a.lo ∧ leX a.lo a.hi
theorem bdl_ok {l : List An} (h : okL l) : okB (bdl l) := by
  have key : ∀ (l : List (Int × Int × Option Int)) (b : Bd), (∀ a ∈ l, 0 ≤ a.2.1 ∧ leX a.2.1 a.2.2) → okB b → okB (l.foldl (fun b a => upB b a.1 a.2) b) := by
    intro l
    induction l with
    | nil => exact fun b _ h => h
    | cons a l ih =>
      intro b h1 h2
      rw [List.foldl_cons]
      refine ih _ (fun c hc => h1 c (List.mem_cons_of_mem _ hc)) fun n hn => ?_
      unfold upB
      split
      · exact h1 a List.mem_cons_self
      · exact h2 n hn
  refine key _ _ (fun a ha => ?_) fun n _ => ⟨Int.le_refl _, leX_none _⟩
  obtain ⟨c, hc, rfl⟩ := List.mem_map.mp ha
  exact (h.2 c hc).2
theorem okB.nn {b : Bd} (h : okB b) {n : Int} (hn : isSix n) : nn (b n).2 := fun x e => by
  have h1 := (h n hn).1
  have h2 := (h n hn).2 x e
  omega
/-- the bounds at the row's three lots -/
theorem sent_sd : ∀ s ∈ sents, sdp (lotN s.1) = (lotN s.2.1, lotN s.2.2) ∨ sdp (lotN s.1) = (lotN s.2.2, lotN s.2.1) := by decide
theorem tops_sent {b : Bd} {s : List Int × List Int × List Int} (h : s ∈ sents) : topsB b (lotN s.1) = lessO (b (lotN s.1)).2 (sumO (b (lotN s.2.1)).2 (b (lotN s.2.2)).2) := by
  unfold topsB
  rcases sent_sd s h with e | e
  · rw [e]
  · rw [e, sumO_comm]
/-- each of the two sides has the lot among its own sides -/
theorem sent_back : ∀ s ∈ sents, (∃ s1 ∈ sents, s1.1 = s.2.1 ∧ (s1.2.1 = s.1 ∨ s1.2.2 = s.1)) ∧ (∃ s2 ∈ sents, s2.1 = s.2.2 ∧ (s2.2.1 = s.1 ∨ s2.2.2 = s.1)) := by decide
theorem tops_closed {b : Bd} (hb : okB b) {s : List Int × List Int × List Int} (h : s ∈ sents) : leO (topsB b (lotN s.1)) (sumO (topsB b (lotN s.2.1)) (topsB b (lotN s.2.2))) := by
  obtain ⟨⟨s1, m1, e1, c1⟩, s2, m2, e2, c2⟩ := sent_back s h
  have n1 := fun {x} (hx : x ∈ sixL) => hb.nn (lotN_six' x hx)
  obtain ⟨g1, g2, g3⟩ := sent_mem s h
  obtain ⟨_, p2, p3⟩ := sent_mem s1 m1
  obtain ⟨_, q2, q3⟩ := sent_mem s2 m2
  rw [tops_sent h, ← e1, ← e2, tops_sent m1, tops_sent m2, e1, e2]
  rcases c1 with c1 | c1 <;> rcases c2 with c2 | c2 <;> rw [c1, c2]
  · exact closed (n1 g1) (n1 g2) (n1 g3) (n1 p3) (n1 q3)
  · rw [sumO_comm (s := (b (lotN s2.2.1)).2)]
    exact closed (n1 g1) (n1 g2) (n1 g3) (n1 p3) (n1 q2)
  · rw [sumO_comm (s := (b (lotN s1.2.1)).2)]
    exact closed (n1 g1) (n1 g2) (n1 g3) (n1 p2) (n1 q3)
  · rw [sumO_comm (s := (b (lotN s1.2.1)).2), sumO_comm (s := (b (lotN s2.2.1)).2)]
    exact closed (n1 g1) (n1 g2) (n1 g3) (n1 p2) (n1 q2)
/-- between the least possible and where it began -/
def InvT (b : Bd) (T : Tp) : Prop := ∀ x ∈ sixL, leO (topsB b (lotN x)) (T (ikey x)) ∧ leO (T (ikey x)) (b (lotN x)).2
theorem relT_at {T : Tp} {s : List Int × List Int × List Int} {y : List Int} : relT T s (ikey y) = if y = s.1 then lessO (T (ikey s.1)) (sumO (T (ikey s.2.1)) (T (ikey s.2.2))) else T (ikey y) := updT_at
theorem InvT.step {b : Bd} (hb : okB b) {T : Tp} {s : List Int × List Int × List Int} (h : InvT b T) (hs : s ∈ sents) : InvT b (relT T s) ∧ relT T s (ikey s.1) = topsB b (lotN s.1) := by
  obtain ⟨g1, g2, g3⟩ := sent_mem s hs
  have up : leO (topsB b (lotN s.1)) (lessO (T (ikey s.1)) (sumO (T (ikey s.2.1)) (T (ikey s.2.2)))) :=
    leO_lessO (h s.1 g1).1 ((tops_closed hb hs).trans (sum_mono (h _ g2).1 (h _ g3).1))
  have dn : leO (lessO (T (ikey s.1)) (sumO (T (ikey s.2.1)) (T (ikey s.2.2)))) (topsB b (lotN s.1)) := by
    rw [tops_sent hs]
    exact leO_lessO ((less_left _ _).trans (h s.1 g1).2) ((less_right _ _).trans (sum_mono (h _ g2).2 (h _ g3).2))
  refine ⟨fun x hx => ?_, ?_⟩
  · rw [relT_at]
    split
    · rename_i e
      rw [e]
      exact ⟨up, (less_left _ _).trans (h s.1 g1).2⟩
    · exact h x hx
  · rw [relT_at, if_pos rfl]
    exact dn.antisymm up
theorem InvT.fold {b : Bd} (hb : okB b) : ∀ (l : List (List Int × List Int × List Int)) (T : Tp), (∀ s ∈ l, s ∈ sents) → InvT b T → InvT b (l.foldl relT T) ∧
    (∀ x ∈ sixL, (T (ikey x) = topsB b (lotN x) ∨ x ∈ l.map (·.1)) → (l.foldl relT T) (ikey x) = topsB b (lotN x))
  | [], T, _, h => ⟨h, fun x _ q => q.elim id fun z => nomatch z⟩
  | s :: l, T, hl, h => by
    have hs := hl s List.mem_cons_self
    obtain ⟨h1, h2⟩ := h.step hb hs
    obtain ⟨r1, r2⟩ := InvT.fold hb l (relT T s) (fun c hc => hl c (List.mem_cons_of_mem _ hc)) h1
    refine ⟨r1, fun x hx q => r2 x hx ?_⟩
    by_cases e : x = s.1
    · subst e
      exact .inl h2
    · rcases q with q | q
      · refine .inl ?_
        rw [relT_at, if_neg e]
        exact q
      · rw [List.map_cons, List.mem_cons] at q
        exact .inr (q.resolve_left e)
theorem sents_all : ∀ x ∈ sixL, x ∈ sents.map (·.1) := by decide
theorem iter_inv {b : Bd} (hb : okB b) {T : Tp} (h : InvT b T) : ∀ n, InvT b (iterT n T)
  | 0 => h
  | n + 1 => (InvT.fold hb sents _ (fun _ z => z) (iter_inv hb h n)).1
theorem iter_tops {b : Bd} (hb : okB b) {T : Tp} (h : InvT b T) (n : Nat) : ∀ x ∈ sixL, iterT (n + 1) T (ikey x) = topsB b (lotN x) := fun x hx =>
  (InvT.fold hb sents _ (fun _ z => z) (iter_inv hb h n)).2 x hx (.inr (sents_all x hx))
theorem topsT_eq {l : List An} (h : okL l) : ∀ x ∈ sixL, topsT l (ikey x) = topsB (bdl l) (lotN x) := by
  refine iter_tops (bdl_ok h) (fun x hx => ?_) 11
  have e := bdl_init l (fun a ha => (h.2 a ha).1) x hx
  rw [← e]
  exact ⟨less_left _ _, leO.refl _⟩
theorem fitsN_iff {b : Bd} {n : Int} : fitsN b n = true ↔ leX (b n).1 (topsB b n) := by
  unfold fitsN
  cases topsB b n with
  | none => exact ⟨fun _ => leX_none _, fun _ => rfl⟩
  | some h => exact ⟨fun q => leX_some.mpr (of_decide_eq_true q), fun q => decide_eq_true (leX_some.mp q)⟩
theorem six_cases {n : Int} (h : isSix n) : n = 1 ∨ n = 2 ∨ n = 3 ∨ n = 4 ∨ n = 5 ∨ n = 6 := by
  obtain ⟨h1, h2⟩ := h
  omega
theorem fitsB_iff {b : Bd} : fitsB b = true ↔ ∀ n, isSix n → leX (b n).1 (topsB b n) := by
  unfold fitsB
  rw [List.all_eq_true]
  constructor
  · intro h n hn
    refine fitsN_iff.mp (h n ?_)
    rcases six_cases hn with rfl | rfl | rfl | rfl | rfl | rfl <;> simp
  · intro h n hn
    refine fitsN_iff.mpr (h n ?_)
    simp at hn
    unfold isSix
    omega
theorem leX_tops {b : Bd} {n x : Int} : leX x (topsB b n) ↔ leX x (b n).2 ∧ leX x (sumO (b (sdp n).1).2 (b (sdp n).2).2) := leX_less
theorem sdp_six {n : Int} (h : isSix n) : isSix (sdp n).1 ∧ isSix (sdp n).2 := by
  rcases six_cases h with rfl | rfl | rfl | rfl | rfl | rfl <;> simp [sdp, isSix]
theorem tops_congr {b c : Bd} (h : ∀ n, isSix n → b n = c n) {n : Int} (hn : isSix n) : topsB b n = topsB c n := by
  unfold topsB
  rw [h n hn, h _ (sdp_six hn).1, h _ (sdp_six hn).2]
theorem fits_congr {b c : Bd} (h : ∀ n, isSix n → b n = c n) : fitsB b = fitsB c := by
  rw [Bool.eq_iff_iff, fitsB_iff, fitsB_iff]
  constructor
  · intro q n hn
    rw [← tops_congr h hn, ← h n hn]
    exact q n hn
  · intro q n hn
    rw [tops_congr h hn, h n hn]
    exact q n hn
/-- the bounds at an answer's lot are the answer's -/
theorem bdl_at {l : List An} (hn : (l.map (·.lot)).Nodup) (hl : ∀ a ∈ l, a.lot ∈ sixL) : ∀ a ∈ l, bdl l (lotN a.lot) = (a.lo, a.hi) := by
  have out : ∀ (l : List An) (b : Bd) (n : Int), (∀ a ∈ l, lotN a.lot ≠ n) → ((l.map fun a => (lotN a.lot, a.lo, a.hi)).foldl (fun b a => upB b a.1 a.2) b) n = b n := by
    intro l
    induction l with
    | nil => exact fun _ _ _ => rfl
    | cons a l ih =>
      intro b n h
      rw [List.map_cons, List.foldl_cons, ih _ _ fun c hc => h c (List.mem_cons_of_mem _ hc)]
      unfold upB
      rw [if_neg fun z => h a List.mem_cons_self z.symm]
  have key : ∀ (l : List An) (b : Bd), (l.map (·.lot)).Nodup → (∀ a ∈ l, a.lot ∈ sixL) → ∀ a ∈ l, ((l.map fun a => (lotN a.lot, a.lo, a.hi)).foldl (fun b a => upB b a.1 a.2) b) (lotN a.lot) = (a.lo, a.hi) := by
    intro l
    induction l with
    | nil => exact fun _ _ _ a ha => nomatch ha
    | cons c l ih =>
      intro b hn hl a ha
      rw [List.map_cons, List.nodup_cons] at hn
      rw [List.map_cons, List.foldl_cons]
      rcases List.mem_cons.mp ha with e | e
      · subst e
        rw [out]
        · unfold upB
          rw [if_pos rfl]
        · intro d hd z
          exact hn.1 (by rw [← lotN_inj _ (hl d (List.mem_cons_of_mem _ hd)) _ (hl a ha) z]; exact List.mem_map.mpr ⟨d, hd, rfl⟩)
      · exact ih _ hn.2 (fun d hd => hl d (List.mem_cons_of_mem _ hd)) a e
  exact key l _ hn hl
theorem bdl_out {l : List An} {n : Int} (h : ∀ a ∈ l, lotN a.lot ≠ n) : bdl l n = (0, none) := by
  have out : ∀ (l : List An) (b : Bd) (n : Int), (∀ a ∈ l, lotN a.lot ≠ n) → ((l.map fun a => (lotN a.lot, a.lo, a.hi)).foldl (fun b a => upB b a.1 a.2) b) n = b n := by
    intro l
    induction l with
    | nil => exact fun _ _ _ => rfl
    | cons a l ih =>
      intro b n h
      rw [List.map_cons, List.foldl_cons, ih _ _ fun c hc => h c (List.mem_cons_of_mem _ hc)]
      unfold upB
      rw [if_neg fun z => h a List.mem_cons_self z.symm]
  exact out l _ n h
theorem lotN_onto {n : Int} (h : isSix n) : ∃ x ∈ sixL, lotN x = n := by
  rcases six_cases h with rfl | rfl | rfl | rfl | rfl | rfl
  · exact ⟨[0], by decide, by decide⟩
  · exact ⟨[1], by decide, by decide⟩
  · exact ⟨[0, 1], by decide, by decide⟩
  · exact ⟨[2], by decide, by decide⟩
  · exact ⟨[0, 2], by decide, by decide⟩
  · exact ⟨[1, 2], by decide, by decide⟩
theorem sum_nn {s t : Option Int} (h1 : nn s) (h2 : nn t) : leX 0 (sumO s t) := by
  intro h e
  cases s with
  | none => cases e
  | some a =>
    cases t with
    | none => cases e
    | some b =>
      cases e
      have := h1 a rfl
      have := h2 b rfl
      omega
theorem nn_le {s : Option Int} : nn s ↔ leX 0 s := Iff.rfl
theorem possT_eq {l : List An} (h : okL l) : possT l = fitsB (bdl l) := by
  have hb := bdl_ok h
  rw [Bool.eq_iff_iff, fitsB_iff]
  have e1 : possT l = true ↔ ∀ a ∈ l, leX a.lo (topsB (bdl l) (lotN a.lot)) := by
    unfold possT
    rw [List.all_eq_true]
    have one : ∀ a ∈ l, ((match topsT l (ikey a.lot) with
      | none => true
      | some h => decide (a.lo ≤ h)) = true ↔ leX a.lo (topsB (bdl l) (lotN a.lot))) := fun a ha => by
      rw [topsT_eq h a.lot (h.2 a ha).1]
      exact leX_fit
    exact ⟨fun q a ha => (one a ha).mp (q a ha), fun q a ha => (one a ha).mpr (q a ha)⟩
  rw [e1]
  constructor
  · intro q n hn
    by_cases c : ∃ a ∈ l, lotN a.lot = n
    · obtain ⟨a, ha, e⟩ := c
      rw [← e, bdl_at h.1 (fun a ha => (h.2 a ha).1) a ha]
      exact q a ha
    · have e : bdl l n = (0, none) := bdl_out fun a ha z => c ⟨a, ha, z⟩
      rw [leX_tops, e]
      exact ⟨leX_none _, sum_nn (hb.nn (sdp_six hn).1) (hb.nn (sdp_six hn).2)⟩
  · intro q a ha
    have z := q _ (lotN_six' _ (h.2 a ha).1)
    rw [bdl_at h.1 (fun a ha => (h.2 a ha).1) a ha] at z
    exact z
/-- what putL makes of answers each lot of which comes once -/
theorem putL_eq {l : List An} {n : List Int} (hn : (l.map (·.lot)).Nodup) (hl : ∀ a ∈ l, a.lot ∈ sixL) (h6 : n ∈ sixL) {x : Int} {y : Option Int} (hx : 0 ≤ x) :
    putL l n x y = ⟨l.filter fun a => a.lot ≠ n, max x (bdl l (lotN n)).1, lessO y (bdl l (lotN n)).2⟩ := by
  have key : ∀ (l : List An) (s : PutS), (∀ a ∈ l, a.lot ≠ n) → l.foldl (putStep n) s = ⟨s.found ++ l, s.lo, s.hi⟩ := by
    intro l
    induction l with
    | nil => intro s _; rw [List.append_nil]; rfl
    | cons a l ih =>
      intro s h
      rw [List.foldl_cons, ih _ fun c hc => h c (List.mem_cons_of_mem _ hc)]
      unfold putStep
      rw [if_neg (h a List.mem_cons_self)]
      simp
  have less_none : ∀ y : Option Int, lessO y none = y := fun y => by cases y <;> rfl
  by_cases c : ∃ a ∈ l, a.lot = n
  · obtain ⟨a, ha, e⟩ := c
    obtain ⟨l1, l2, rfl⟩ := List.append_of_mem ha
    rw [← e, bdl_at hn hl a ha]
    rw [List.map_append, List.map_cons, List.nodup_append] at hn
    obtain ⟨n1, n2, n3⟩ := hn
    rw [List.nodup_cons] at n2
    have h1 : ∀ c ∈ l1, c.lot ≠ n := fun c hc z => n3 c.lot (List.mem_map.mpr ⟨c, hc, rfl⟩) a.lot List.mem_cons_self (z.trans e.symm)
    have h2 : ∀ c ∈ l2, c.lot ≠ n := fun c hc z => n2.1 (List.mem_map.mpr ⟨c, hc, z.trans e.symm⟩)
    unfold putL
    rw [List.foldl_append, List.foldl_cons]
    rw [← e] at h1 h2 key
    rw [key l1 _ h1, key l2 _ h2]
    unfold putStep
    rw [if_pos rfl]
    rw [List.filter_append, List.filter_cons_of_neg (by simp), List.filter_eq_self.mpr (fun c hc => by simpa using h1 c hc), List.filter_eq_self.mpr (fun c hc => by simpa using h2 c hc)]
    simp
  · have h1 : ∀ a ∈ l, a.lot ≠ n := fun a ha z => c ⟨a, ha, z⟩
    have e : bdl l (lotN n) = (0, none) := bdl_out fun a ha z => h1 a ha (lotN_inj _ (hl a ha) _ h6 z)
    rw [e, less_none, Int.max_eq_left hx, List.filter_eq_self.mpr (fun c hc => by simpa using h1 c hc)]
    unfold putL
    rw [key l _ h1]
    simp
/-- answers with a further one, as the law puts it -/
def putR (l : List An) (n : List Int) (x : Int) (y : Option Int) : List An := (l.filter fun a => a.lot ≠ n) ++ [⟨n, max x (bdl l (lotN n)).1, lessO y (bdl l (lotN n)).2, true⟩]
theorem putM_eq {l : List An} {n : List Int} (h : okL l) (h6 : n ∈ sixL) {x : Int} {y : Option Int} (hx : 0 ≤ x) :
    putM l n x y = if fitO (max x (bdl l (lotN n)).1) (lessO y (bdl l (lotN n)).2) = true then some (putR l n x y) else none := by
  unfold putM
  rw [putL_eq h.1 (fun a ha => (h.2 a ha).1) h6 hx]
  rfl
theorem putR_ok {l : List An} {n : List Int} (h : okL l) (h6 : n ∈ sixL) {x : Int} {y : Option Int} (hx : 0 ≤ x) (hf : leX (max x (bdl l (lotN n)).1) (lessO y (bdl l (lotN n)).2)) : okL (putR l n x y) := by
  unfold putR
  refine ⟨?_, fun a ha => ?_⟩
  · rw [List.map_append, List.nodup_append]
    refine ⟨h.1.sublist (List.filter_sublist.map _), by simp, fun u hu v hv => ?_⟩
    simp at hv
    subst hv
    obtain ⟨a, ha, rfl⟩ := List.mem_map.mp hu
    have := (List.mem_filter.mp ha).2
    simpa using this
  · rcases List.mem_append.mp ha with q | q
    · exact h.2 a (List.mem_filter.mp q).1
    · rw [List.mem_singleton.mp q]
      exact ⟨h6, Int.le_trans hx (Int.le_max_left _ _), hf⟩
theorem putR_bd {l : List An} {n : List Int} (h : okL l) (h6 : n ∈ sixL) {x : Int} {y : Option Int} (hx : 0 ≤ x) (hf : leX (max x (bdl l (lotN n)).1) (lessO y (bdl l (lotN n)).2)) :
    ∀ k, isSix k → bdl (putR l n x y) k = upB (bdl l) (lotN n) (max x (bdl l (lotN n)).1, lessO y (bdl l (lotN n)).2) k := fun k hk => by
  have h2 := putR_ok h h6 hx hf
  have at2 := bdl_at h2.1 fun a ha => (h2.2 a ha).1
  have at1 := bdl_at h.1 fun a ha => (h.2 a ha).1
  unfold upB
  by_cases e : k = lotN n
  · rw [if_pos e, e]
    exact at2 _ (List.mem_append_right _ List.mem_cons_self)
  · rw [if_neg e]
    by_cases c : ∃ a ∈ l, lotN a.lot = k
    · obtain ⟨a, ha, e2⟩ := c
      rw [← e2, at1 a ha]
      refine at2 a (List.mem_append_left _ (List.mem_filter.mpr ⟨ha, ?_⟩))
      simp
      intro z
      exact e (by rw [← e2, z])
    · rw [bdl_out (l := l) fun a ha z => c ⟨a, ha, z⟩]
      refine bdl_out fun a ha z => ?_
      rcases List.mem_append.mp ha with q | q
      · exact c ⟨a, (List.mem_filter.mp q).1, z⟩
      · rw [List.mem_singleton.mp q] at z
        exact e z.symm
/-- x ≤ t + the rest, t an upper bound of its own -/
theorem leX_sum_some {x m : Int} {u : Option Int} : leX x (sumO (some m) u) ↔ ∀ h, u = some h → x - h ≤ m := by
  cases u with
  | none => exact ⟨fun _ h e => (nomatch e), fun _ => leX_none _⟩
  | some u =>
    show leX x (some (m + u)) ↔ _
    rw [leX_some]
    constructor
    · intro q h e
      cases e
      omega
    · intro q
      have := q u rfl
      omega
theorem lowest_le {b : Bd} {n m : Int} : lowestB b n ≤ m ↔ (b n).1 ≤ m ∧ ∀ s ∈ sd, (n = s.2.1 ∨ n = s.2.2) → ∀ h, (b (s.2.1 + s.2.2 - n)).2 = some h → (b s.1).1 - h ≤ m := by
  have z := foldl_max (sd.filterMap (lowS b n)) (b n).1
  have e : lowestB b n = (sd.filterMap (lowS b n)).foldl max (b n).1 := rfl
  rw [e]
  constructor
  · intro q
    refine ⟨Int.le_trans (z.2 _ List.mem_cons_self) q, fun s hs hn h hh => Int.le_trans (z.2 _ (List.mem_cons_of_mem _ (List.mem_filterMap.mpr ⟨s, hs, ?_⟩))) q⟩
    unfold lowS
    rw [if_pos hn, hh]
    rfl
  · rintro ⟨q1, q2⟩
    rcases List.mem_cons.mp z.1 with q | q
    · rw [q]
      exact q1
    · obtain ⟨s, hs, e2⟩ := List.mem_filterMap.mp q
      generalize (sd.filterMap (lowS b n)).foldl max (b n).1 = X at e2 ⊢
      unfold lowS at e2
      split at e2
      · rename_i hn
        obtain ⟨h, hh, e3⟩ := Option.map_eq_some_iff.mp e2
        have := q2 s hs hn h hh
        omega
      · cases e2
theorem sd_sdp : ∀ s ∈ sd, isSix s.1 ∧ sdp s.1 = (s.2.1, s.2.2) := by unfold isSix; decide
theorem sd_all {n : Int} (h : isSix n) : (n, (sdp n).1, (sdp n).2) ∈ sd := by
  rcases six_cases h with rfl | rfl | rfl | rfl | rfl | rfl <;> decide
theorem sd_ne {n : Int} (h : isSix n) : (sdp n).1 ≠ n ∧ (sdp n).2 ≠ n ∧ (sdp n).1 ≠ (sdp n).2 := by
  rcases six_cases h with rfl | rfl | rfl | rfl | rfl | rfl <;> decide
/-- with a further upper bound m (and a lower one, lo, that is not below) at n -/
theorem fits_up {b : Bd} (hb : okB b) {n : Int} (hn : isSix n) {lo m : Int} (hlo : (b n).1 ≤ lo) :
    fitsB b = true → (fitsB (upB b n (lo, lessO (some m) (b n).2)) = true ↔ (leX lo (topsB b n) ∧ lo ≤ m) ∧ ∀ s ∈ sd, (n = s.2.1 ∨ n = s.2.2) → ∀ h, (b (s.2.1 + s.2.2 - n)).2 = some h → (b s.1).1 - h ≤ m) := by
  intro hf
  rw [fitsB_iff] at hf ⊢
  have self : upB b n (lo, lessO (some m) (b n).2) n = (lo, lessO (some m) (b n).2) := if_pos rfl
  have other : ∀ k, k ≠ n → upB b n (lo, lessO (some m) (b n).2) k = b k := fun k hk => if_neg hk
  obtain ⟨d1, d2, d3⟩ := sd_ne hn
  constructor
  · intro q
    refine ⟨?_, fun s hs hor h hh => ?_⟩
    · have z := q n hn
      rw [leX_tops, self, other _ d1, other _ d2] at z
      obtain ⟨z1, z2⟩ := z
      have z3 := leX_less.mp z1
      exact ⟨leX_tops.mpr ⟨z3.2, z2⟩, leX_some.mp z3.1⟩
    · obtain ⟨s6, es⟩ := sd_sdp s hs
      obtain ⟨c1, c2, c3⟩ := sd_ne s6
      rw [es] at c1 c2 c3
      dsimp only at c1 c2 c3
      have z := (leX_tops.mp (q s.1 s6)).2
      rw [es] at z
      dsimp only at z
      rcases hor with e | e
      · rw [other s.1 (by rw [e]; exact c1.symm), ← e, self, other s.2.2 (by rw [e]; exact c3.symm)] at z
        have z2 := (leX_sum_less.mp z).1
        rw [← e, show n + s.2.2 - n = s.2.2 by omega] at hh
        exact leX_sum_some.mp z2 h hh
      · rw [other s.1 (by rw [e]; exact c2.symm), ← e, self, other s.2.1 (by rw [e]; exact c3), sumO_comm] at z
        have z2 := (leX_sum_less.mp z).1
        rw [← e, show s.2.1 + n - n = s.2.1 by omega] at hh
        exact leX_sum_some.mp z2 h hh
  · rintro ⟨⟨q1, q2⟩, q3⟩ k hk
    by_cases e : k = n
    · subst e
      rw [leX_tops, self, other _ d1, other _ d2]
      have z := leX_tops.mp q1
      exact ⟨leX_less.mpr ⟨leX_some.mpr q2, z.1⟩, z.2⟩
    · have old := leX_tops.mp (hf k hk)
      obtain ⟨c1, c2, c3⟩ := sd_ne hk
      rw [leX_tops, other k e]
      refine ⟨old.1, ?_⟩
      have hs := sd_all hk
      by_cases e1 : (sdp k).1 = n
      · rw [e1, self, other _ (by rw [← e1]; exact c3.symm)]
        refine leX_sum_less.mpr ⟨leX_sum_some.mpr fun h hh => q3 _ hs (.inl e1.symm) h ?_, by rw [← e1]; exact old.2⟩
        dsimp only
        rw [e1, show n + (sdp k).2 - n = (sdp k).2 by omega]
        exact hh
      · by_cases e2 : (sdp k).2 = n
        · rw [e2, self, other _ e1, sumO_comm]
          refine leX_sum_less.mpr ⟨leX_sum_some.mpr fun h hh => q3 _ hs (.inr e2.symm) h ?_, by rw [← e2, sumO_comm]; exact old.2⟩
          dsimp only
          rw [e2, show (sdp k).1 + n - n = (sdp k).1 by omega]
          exact hh
        · rw [other _ e1, other _ e2]
          exact old.2
/-- the law's put, then its own lowering -/
def triedM (l : List An) (n : List Int) (x : Int) (y : Option Int) : Bool := match putM l n x y with
  | none => false
  | some l' => possT l'
theorem tried_half {l : List An} (h : okL l) (hf : fitsB (bdl l) = true) {n : List Int} (h6 : n ∈ sixL) {m : Int} : triedM l n 0 (some m) = decide (lowestB (bdl l) (lotN n) ≤ m) := by
  have hb := bdl_ok h
  have hn := lotN_six' n h6
  obtain ⟨b1, b2⟩ := hb _ hn
  have emax : max 0 (bdl l (lotN n)).1 = (bdl l (lotN n)).1 := Int.max_eq_right b1
  unfold triedM
  rw [putM_eq h h6 (Int.le_refl 0), emax]
  by_cases c : fitO (bdl l (lotN n)).1 (lessO (some m) (bdl l (lotN n)).2) = true
  · rw [if_pos c]
    have cf := leX_fit.mp c
    show possT (putR l n 0 (some m)) = _
    rw [possT_eq (putR_ok h h6 (Int.le_refl 0) (by rw [emax]; exact cf)), fits_congr (putR_bd h h6 (Int.le_refl 0) (by rw [emax]; exact cf)), emax]
    rw [Bool.eq_iff_iff, fits_up hb hn (Int.le_refl _) hf, decide_eq_true_iff, lowest_le]
    have t := fitsB_iff.mp hf _ hn
    have cm := leX_some.mp (leX_less.mp cf).1
    exact ⟨fun q => ⟨q.1.2, q.2⟩, fun q => ⟨⟨t, cm⟩, q.2⟩⟩
  · rw [if_neg c]
    show false = _
    symm
    rw [decide_eq_false_iff_not, lowest_le]
    exact fun q => c (leX_fit.mpr (leX_less.mpr ⟨leX_some.mpr q.1, b2⟩))
theorem tried_item {l : List An} (h : okL l) (hf : fitsB (bdl l) = true) {n : List Int} (h6 : n ∈ sixL) {m : Int} (hm : 0 ≤ m) : triedM l n m (some m) = (decide (lowestB (bdl l) (lotN n) ≤ m) && fitO m (topsB (bdl l) (lotN n))) := by
  have hb := bdl_ok h
  have hn := lotN_six' n h6
  obtain ⟨b1, b2⟩ := hb _ hn
  unfold triedM
  rw [putM_eq h h6 hm]
  by_cases c : fitO (max m (bdl l (lotN n)).1) (lessO (some m) (bdl l (lotN n)).2) = true
  · rw [if_pos c]
    have cf := leX_fit.mp c
    have c1 := leX_some.mp (leX_less.mp cf).1
    have emax : max m (bdl l (lotN n)).1 = m := by omega
    have c2 : (bdl l (lotN n)).1 ≤ m := by omega
    show possT (putR l n m (some m)) = _
    rw [possT_eq (putR_ok h h6 hm cf), fits_congr (putR_bd h h6 hm cf), emax]
    rw [Bool.eq_iff_iff, fits_up hb hn c2 hf, Bool.and_eq_true, decide_eq_true_iff, lowest_le, leX_fit]
    exact ⟨fun q => ⟨⟨c2, q.2⟩, q.1.1⟩, fun q => ⟨⟨q.2, Int.le_refl _⟩, q.1.2⟩⟩
  · rw [if_neg c]
    show false = _
    symm
    rw [← Bool.not_eq_true, Bool.and_eq_true, decide_eq_true_iff, lowest_le, leX_fit, leX_tops]
    intro q
    refine c (leX_fit.mpr ?_)
    rw [Int.max_eq_left q.1.1]
    exact leX_less.mpr ⟨leX_some.mpr (Int.le_refl _), q.2.1⟩
/-- halving -/
theorem half_step {l : List An} (h : okL l) (hf : fitsB (bdl l) = true) {n : List Int} (h6 : n ∈ sixL) {k : Nat} {s : Int × Int} (h1 : s.1 ≤ lowestB (bdl l) (lotN n)) (h2 : lowestB (bdl l) (lotN n) ≤ s.2) (h3 : s.2 - s.1 < 2 ^ (k + 1)) :
    (halfS l n s).1 ≤ lowestB (bdl l) (lotN n) ∧ lowestB (bdl l) (lotN n) ≤ (halfS l n s).2 ∧ (halfS l n s).2 - (halfS l n s).1 < 2 ^ k := by
  have t := tried_half h hf h6 (m := (s.1 + s.2) / 2)
  generalize lowestB (bdl l) (lotN n) = L at *
  have p : (2 : Int) ^ (k + 1) = 2 * 2 ^ k := by rw [Int.pow_succ, Int.mul_comm]
  have p0 : (0 : Int) < 2 ^ k := Int.pow_pos (by decide)
  obtain ⟨a, b⟩ := s
  unfold halfS
  dsimp only at *
  by_cases c : a < b
  · rw [if_pos c]
    have fin : ∀ r : Int × Int, (r = if L ≤ (a + b) / 2 then (a, (a + b) / 2) else ((a + b) / 2 + 1, b)) → r.1 ≤ L ∧ L ≤ r.2 ∧ r.2 - r.1 < 2 ^ k := by
      rintro r rfl
      by_cases d : L ≤ (a + b) / 2
      · rw [if_pos d]
        dsimp only
        omega
      · rw [if_neg d]
        dsimp only
        omega
    refine fin _ ?_
    unfold triedM at t
    cases hp : putM l n 0 (some ((a + b) / 2)) with
    | none =>
      rw [hp] at t
      have t' : false = decide (L ≤ (a + b) / 2) := t
      rw [if_neg (of_decide_eq_false t'.symm)]
    | some l' =>
      rw [hp] at t
      have t' : possT l' = decide (L ≤ (a + b) / 2) := t
      dsimp only
      rw [t']
      by_cases d : L ≤ (a + b) / 2
      · rw [if_pos d, if_pos (decide_eq_true d)]
      · rw [if_neg d, if_neg (by simpa using d)]
  · rw [if_neg c]
    dsimp only
    omega
theorem lowest_most {l : List An} (h : okL l) {n : List Int} (h6 : n ∈ sixL) : 0 ≤ lowestB (bdl l) (lotN n) ∧ lowestB (bdl l) (lotN n) ≤ maxL (0 :: l.map (·.lo)) := by
  have hb := bdl_ok h
  have z := foldl_max (l.map (·.lo)) 0
  have em : maxL (0 :: l.map (·.lo)) = (l.map (·.lo)).foldl max 0 := rfl
  have lo : ∀ k, isSix k → (bdl l k).1 ≤ maxL (0 :: l.map (·.lo)) := fun k hk => by
    rw [em]
    by_cases c : ∃ a ∈ l, lotN a.lot = k
    · obtain ⟨a, ha, e⟩ := c
      rw [← e, bdl_at h.1 (fun a ha => (h.2 a ha).1) a ha]
      exact z.2 _ (List.mem_cons_of_mem _ (List.mem_map.mpr ⟨a, ha, rfl⟩))
    · rw [bdl_out fun a ha e => c ⟨a, ha, e⟩]
      exact z.2 _ List.mem_cons_self
  constructor
  · have q := (lowest_le (b := bdl l) (n := lotN n) (m := lowestB (bdl l) (lotN n))).mp (Int.le_refl _)
    exact Int.le_trans (hb _ (lotN_six' n h6)).1 q.1
  · rw [lowest_le]
    refine ⟨lo _ (lotN_six' n h6), fun s hs hor x hx => ?_⟩
    obtain ⟨s6, es⟩ := sd_sdp s hs
    have o6 : isSix (s.2.1 + s.2.2 - lotN n) := by
      have z6 := sdp_six s6
      rw [es] at z6
      rcases hor with e | e
      · rw [e, show s.2.1 + s.2.2 - s.2.1 = s.2.2 by omega]
        exact z6.2
      · rw [e, show s.2.1 + s.2.2 - s.2.2 = s.2.1 by omega]
        exact z6.1
    have := lo _ s6
    have := hb.nn o6 x hx
    omega
theorem halv_eq {l : List An} (h : okL l) (hf : fitsB (bdl l) = true) {n : List Int} (h6 : n ∈ sixL) (hm : ∀ a ∈ l, a.lo < 2 ^ 200) : (halv l n).1 = lowestB (bdl l) (lotN n) := by
  obtain ⟨q1, q2⟩ := lowest_most h h6
  have z := foldl_max (l.map (·.lo)) 0
  have mx : maxL (0 :: l.map (·.lo)) < 2 ^ 200 := by
    show (l.map (·.lo)).foldl max 0 < 2 ^ 200
    rcases List.mem_cons.mp z.1 with e | e
    · rw [e]; decide
    · obtain ⟨a, ha, e2⟩ := List.mem_map.mp e
      rw [← e2]
      exact hm a ha
  have key : ∀ i : Nat, i ≤ 200 → (iterS (halfS l n) i (0, maxL (0 :: l.map (·.lo)))).1 ≤ lowestB (bdl l) (lotN n) ∧ lowestB (bdl l) (lotN n) ≤ (iterS (halfS l n) i (0, maxL (0 :: l.map (·.lo)))).2 ∧
      (iterS (halfS l n) i (0, maxL (0 :: l.map (·.lo)))).2 - (iterS (halfS l n) i (0, maxL (0 :: l.map (·.lo)))).1 < 2 ^ (200 - i) := by
    intro i
    induction i with
    | zero => exact fun _ => ⟨q1, q2, by show maxL (0 :: l.map (·.lo)) - 0 < 2 ^ 200; omega⟩
    | succ i ih =>
      intro hi
      obtain ⟨a1, a2, a3⟩ := ih (by omega)
      exact half_step h hf h6 a1 a2 (by rw [show 200 - (i + 1) + 1 = 200 - i by omega]; exact a3)
  obtain ⟨a1, a2, a3⟩ := key 200 (Nat.le_refl _)
  have e : halv l n = iterS (halfS l n) 200 (0, maxL (0 :: l.map (·.lo))) := rfl
  rw [e]
  have p : (2 : Int) ^ (200 - 200) = 1 := by decide
  rw [p] at a3
  omega

/-! ### the data that the law passes -/
theorem anOf_anD (a : An) : anOf (anD a) = (lotN a.lot, a.lo, a.hi) := by
  have e : (dtQ a.isL a.lot).items.map Dt.toI = a.lot := by
    have gf : (a.lot.map Dt.int).map Dt.toI = a.lot := by
      rw [List.map_map]
      exact List.map_id'' (fun _ => rfl) a.lot
    cases a.isL <;> exact gf
  show (lotN ((dtQ a.isL a.lot).items.map Dt.toI), a.lo, hiOf (oi a.hi)) = _
  rw [e]
  cases a.hi <;> rfl
theorem bd_eq (l : List An) : bnds ((l.map anD).map anOf) = bdl l := by
  unfold bdl
  rw [List.map_map]
  congr 1
  exact List.map_congr_left fun a _ => anOf_anD a
theorem ask_six : ∀ x ∈ sixL, ∀ b : Bool, isAsk (dtQ b x) = true := by decide +kernel
theorem anD_ok {a : An} (h6 : a.lot ∈ sixL) (h0 : 0 ≤ a.lo) (hh : leX a.lo a.hi) : isAns (anD a) = true := by
  show (isAsk (dtQ a.isL a.lot) && (isC (.int a.lo) && ((oi a.hi).isN || (isI (oi a.hi) && decide ((Dt.int a.lo).toI ≤ (oi a.hi).toI))))) = true
  rw [ask_six a.lot h6, Bool.true_and, show isC (.int a.lo) = true from decide_eq_true h0, Bool.true_and]
  cases e : a.hi with
  | none => rfl
  | some h =>
    show (false || (true && decide (a.lo ≤ h))) = true
    rw [decide_eq_true (hh h e)]
    rfl
theorem lotNo_anD (a : An) : lotNo (anD a) = lotN a.lot := congrArg (·.1) (anOf_anD a)
/-- a list or a tuple of answers -/
def pasD (isT : Bool) (l : List An) : Dt := if isT then .tup (l.map anD) else .lst (l.map anD)
theorem pas_items (b : Bool) (l : List An) : (pasD b l).items = l.map anD := by cases b <;> rfl
theorem pas_seq (b : Bool) (l : List An) : SeqD (pasD b l) (l.map anD) := by
  cases b with
  | true => exact .tup _
  | false => exact .lst _
theorem pas_ansW {l : List An} (h : okL l) (b : Bool) : isAnsW (pasD b l) = true := by
  unfold isAnsW
  have e1 : ((pasD b l).isLst || (pasD b l).isTup) = true := by cases b <;> rfl
  rw [e1, pas_items, Bool.true_and, Bool.and_eq_true]
  refine ⟨List.all_eq_true.mpr fun d hd => ?_, decide_eq_true ?_⟩
  · obtain ⟨a, ha, rfl⟩ := List.mem_map.mp hd
    obtain ⟨q1, q2, q3⟩ := h.2 a ha
    exact anD_ok q1 q2 q3
  · rw [List.map_map]
    have e2 : (lotNo ∘ anD) = fun a => lotN a.lot := funext lotNo_anD
    have key : ∀ l : List An, (∀ a ∈ l, a.lot ∈ sixL) → (l.map (·.lot)).Nodup → (l.map fun a => lotN a.lot).Nodup := by
      intro l
      induction l with
      | nil => exact fun _ _ => List.nodup_nil
      | cons a l ih =>
        intro h1 h2
        rw [List.map_cons, List.nodup_cons] at h2 ⊢
        refine ⟨fun z => h2.1 ?_, ih (fun c hc => h1 c (List.mem_cons_of_mem _ hc)) h2.2⟩
        obtain ⟨c, hc, e⟩ := List.mem_map.mp z
        rw [← lotN_inj _ (h1 c (List.mem_cons_of_mem _ hc)) _ (h1 a List.mem_cons_self) e]
        exact List.mem_map.mpr ⟨c, hc, rfl⟩
    rw [e2]
    exact key l (fun a ha => (h.2 a ha).1) h.1
theorem pas_bd (b : Bool) (l : List An) : bdA (pasD b l) = bdl l := by
  show bnds ((pasD b l).items.map anOf) = _
  rw [pas_items, bd_eq]
theorem pas_good {l : List An} (h : okL l) (b : Bool) : goodA (pasD b l) = possT l := by
  unfold goodA
  rw [pas_ansW h b, Bool.true_and, possT_eq h]
  show fitsB (bdA (pasD b l)) = _
  rw [pas_bd]
theorem six_small : ∀ x ∈ sixL, x.length ≤ 2 := by decide
theorem pas_small {l : List An} (h : okL l) (hl : l.length ≤ 900) (b : Bool) : small3 (pasD b l) := by
  refine ⟨by show (pasD b l).items.length ≤ 1000; rw [pas_items, List.length_map]; omega, fun d hd => ?_⟩
  rw [pas_items] at hd
  obtain ⟨a, ha, rfl⟩ := List.mem_map.mp hd
  intro e he
  have he' : e ∈ [dtQ a.isL a.lot, .int a.lo, oi a.hi] := he
  have l2 := six_small _ (h.2 a ha).1
  simp only [List.mem_cons, List.not_mem_nil, or_false] at he'
  rcases he' with rfl | rfl | rfl
  · show (dtQ a.isL a.lot).items.length ≤ 1000
    have e1 : (dtQ a.isL a.lot).items = a.lot.map .int := by cases a.isL <;> rfl
    rw [e1, List.length_map]
    omega
  · exact Nat.zero_le _
  · show (oi a.hi).items.length ≤ 1000
    cases a.hi <;> exact Nat.zero_le _
theorem lay_pas (b : Bool) (l : List An) : (pasD b l).lay 3 = true := by
  have e : (l.map anD).all (Dt.lay 2) = true := List.all_eq_true.mpr fun d hd => by
    obtain ⟨a, _, rfl⟩ := List.mem_map.mp hd
    exact lay_an a
  cases b with
  | true => exact e
  | false => exact e
/-- the lots whose items are open -/
def opens (b : Bd) : List (List Int) := sixL.filter fun x => !decide (some (lowestB b (lotN x)) = topsB b (lotN x))
theorem leQ_rows : leQ true = fun p q : List Int => decide (p ≤ q) := PySem.W.dataLe_rows id
theorem six_pair : sixL.Pairwise (fun a b => leQ true a b = true) := by
  rw [leQ_rows]
  decide
theorem opens_eq (b : Bd) : openL b = opens b := by
  unfold openL
  refine List.Perm.eq_of_pairwise (le := fun a c => leQ true a c = true) (fun x y _ _ h1 h2 => ?_) (List.pairwise_mergeSort (fun x y z h1 h2 => ?_) (fun x y => ?_) _) (six_pair.sublist List.filter_sublist) ((List.mergeSort_perm _ _).trans ?_)
  · rw [leQ_rows] at h1 h2
    exact List.le_antisymm (of_decide_eq_true h1) (of_decide_eq_true h2)
  · rw [leQ_rows] at h1 h2 ⊢
    exact decide_eq_true (List.le_trans (of_decide_eq_true h1) (of_decide_eq_true h2))
  · rw [leQ_rows]
    rcases List.le_total x y with h | h
    · exact Bool.or_eq_true_iff.mpr (.inl (decide_eq_true h))
    · exact Bool.or_eq_true_iff.mpr (.inr (decide_eq_true h))
  · have hp : (([1, 2, 3, 4, 5, 6] : List Int).map fun n => lotOf n 3).Perm sixL := by decide
    have e : (([1, 2, 3, 4, 5, 6] : List Int).filter fun n => !decide (some (lowestB b n) = topsB b n)).map (fun n => lotOf n 3) = (([1, 2, 3, 4, 5, 6] : List Int).map fun n => lotOf n 3).filter fun x => !decide (some (lowestB b (lotN x)) = topsB b (lotN x)) := by
      rw [List.filter_map]
      have hl : ∀ n ∈ ([1, 2, 3, 4, 5, 6] : List Int), lotN (lotOf n 3) = n := by decide
      refine congrArg (List.map fun n => lotOf n 3) (List.filter_congr fun n hn => ?_)
      show _ = !decide (some (lowestB b (lotN (lotOf n 3))) = topsB b (lotN (lotOf n 3)))
      rw [hl n hn]
    rw [e]
    exact hp.filter _
end Cp
/-! K81p: the answers are right -/
namespace Cp
open PySem PySem.Spec PyProof.Rows L2
local macro_rules | `(tactic| trivial) => `(tactic| with_reducible refine ea_nil ?_)
local macro_rules | `(tactic| trivial) => `(tactic| with_reducible refine ea_cons ?_)
local macro_rules | `(tactic| trivial) => `(tactic| with_reducible refine et_test ?_)
local macro_rules | `(tactic| trivial) => `(tactic| with_reducible refine et_yes ?_)
local macro_rules | `(tactic| trivial) => `(tactic| with_reducible refine et_B ?_)
local macro_rules | `(tactic| trivial) => `(tactic| with_reducible refine ev_lenS ?_)
local macro_rules | `(tactic| trivial) => `(tactic| with_reducible refine et_and ?_)
local macro_rules | `(tactic| trivial) => `(tactic| with_reducible refine et_or ?_)
local macro_rules | `(tactic| trivial) => `(tactic| with_reducible refine et_not ?_)
local macro_rules | `(tactic| trivial) => `(tactic| with_reducible refine ev_if ?_)
local macro_rules | `(tactic| trivial) => `(tactic| with_reducible refine ev_chain ?_)
local macro_rules | `(tactic| trivial) => `(tactic| with_reducible refine ev_and ?_)
local macro_rules | `(tactic| trivial) => `(tactic| with_reducible refine ev_or ?_)
local macro_rules | `(tactic| trivial) => `(tactic| with_reducible refine ev_not ?_)
local macro_rules | `(tactic| trivial) => `(tactic| with_reducible refine ev_op ?_)
local macro_rules | `(tactic| trivial) => `(tactic| with_reducible refine ev_cb ?_)
local macro_rules | `(tactic| trivial) => `(tactic| with_reducible refine ev_isi kit_int ?_)
local macro_rules | `(tactic| trivial) => `(tactic| with_reducible refine ev_isi kit_bool ?_)
local macro_rules | `(tactic| trivial) => `(tactic| with_reducible refine ev_isi kit_str ?_)
local macro_rules | `(tactic| trivial) => `(tactic| with_reducible refine ev_isi kit_list ?_)
local macro_rules | `(tactic| trivial) => `(tactic| with_reducible refine ev_isi kit_tuple ?_)
local macro_rules | `(tactic| trivial) => `(tactic| with_reducible refine ev_isi2 kit_list kit_tuple ?_)
local macro_rules | `(tactic| trivial) => `(tactic| with_reducible refine ev_call ?_)
local macro_rules | `(tactic| trivial) => `(tactic| with_reducible refine ev_tup ?_)
local macro_rules | `(tactic| trivial) => `(tactic| with_reducible refine ev_i ?_)
local macro_rules | `(tactic| trivial) => `(tactic| with_reducible refine ev_b ?_)
local macro_rules | `(tactic| trivial) => `(tactic| with_reducible refine ev_n ?_)
local macro_rules | `(tactic| trivial) => `(tactic| with_reducible refine ev_s ?_)
local macro_rules | `(tactic| trivial) => `(tactic| ((with_reducible apply ev_var); · exact rfl))
local macro_rules | `(tactic| trivial) => `(tactic| ((with_reducible apply ev_varV); (· exact rfl); (· assumption)))
local macro_rules | `(tactic| trivial) => `(tactic| with_reducible refine sv_ret ?_)
local macro_rules | `(tactic| trivial) => `(tactic| with_reducible refine sv_if ?_)
local macro_rules | `(tactic| trivial) => `(tactic| (with_reducible refine sv_nx ?_))
local macro_rules | `(tactic| trivial) => `(tactic| ((with_reducible apply le_and); · exact rfl))
local macro_rules | `(tactic| trivial) => `(tactic| ((with_reducible apply lt_and); · exact rfl))
local macro_rules | `(tactic| trivial) => `(tactic| ((with_reducible apply ex_and); · exact rfl))
local macro_rules | `(tactic| trivial) => `(tactic| (((with_reducible apply eq_and); · exact rfl); try dsimp only [r0, r1, r2, r3, r4, x1, x2]))
local macro_rules | `(tactic| trivial) => `(tactic| with_reducible refine ⟨_, opd_I0, ?_⟩)
local macro_rules | `(tactic| trivial) => `(tactic| with_reducible refine ⟨_, opd_B0, ?_⟩)
local macro_rules | `(tactic| trivial) => `(tactic| with_reducible refine ⟨_, opd_isN, ?_⟩)
local macro_rules | `(tactic| trivial) => `(tactic| with_reducible refine ⟨_, opd_notN, ?_⟩)
local macro_rules | `(tactic| trivial) => `(tactic| with_reducible refine ⟨_, opd_isB, ?_⟩)
local macro_rules | `(tactic| trivial) => `(tactic| with_reducible refine ⟨_, opd_eqI, ?_⟩)
local macro_rules | `(tactic| trivial) => `(tactic| with_reducible refine ⟨_, opd_neI, ?_⟩)
local macro_rules | `(tactic| trivial) => `(tactic| ((with_reducible apply ite_t); · exact rfl))
local macro_rules | `(tactic| trivial) => `(tactic| ((with_reducible apply ite_f); · exact rfl))
local macro_rules | `(tactic| trivial) => `(tactic| with_reducible refine sv_seq ?_)
local macro_rules | `(tactic| trivial) => `(tactic| with_reducible refine tgl_nil ?_)
local macro_rules | `(tactic| trivial) => `(tactic| with_reducible apply tgl_cons)
local macro_rules | `(tactic| trivial) => `(tactic| ((with_reducible apply tg_tup); · exact rfl))
local macro_rules | `(tactic| trivial) => `(tactic| ((with_reducible apply tg_sqt); · exact rfl))
local macro_rules | `(tactic| trivial) => `(tactic| ((with_reducible refine tg_name ?_ ?_); · exact Nat.le_of_ble_eq_true rfl))
local macro_rules | `(tactic| trivial) => `(tactic| with_reducible refine sv_drop (te := tCallS _ _ _) ?_)
local macro_rules | `(tactic| trivial) => `(tactic| with_reducible refine sv_asg (te := tOp _ _ _) ?_)
local macro_rules | `(tactic| trivial) => `(tactic| with_reducible refine sv_asg (te := tCall _ _ _ _) ?_)
local macro_rules | `(tactic| trivial) => `(tactic| with_reducible refine sv_asg (te := tCallS _ _ _) ?_)
local macro_rules | `(tactic| trivial) => `(tactic| with_reducible refine sv_asg (te := tIf _ _ _) ?_)
local macro_rules | `(tactic| trivial) => `(tactic| with_reducible refine sv_asg (te := tVar _) ?_)
local macro_rules | `(tactic| trivial) => `(tactic| with_reducible refine sv_asg (te := tC _) ?_)
local macro_rules | `(tactic| trivial) => `(tactic| with_reducible refine sv_asg (te := tTup _) ?_)
local macro_rules | `(tactic| trivial) => `(tactic| with_reducible refine sv_asg (te := tAndV _ _) ?_)
local macro_rules | `(tactic| trivial) => `(tactic| with_reducible refine sv_asg (te := tOrV _ _) ?_)
local macro_rules | `(tactic| trivial) => `(tactic| with_reducible refine sv_asg (te := tNotV _) ?_)
local macro_rules | `(tactic| trivial) => `(tactic| with_reducible refine sv_asg (te := tDGet _ _) ?_)
local macro_rules | `(tactic| trivial) => `(tactic| with_reducible refine sv_asg (te := tUn _ _) ?_)
local macro_rules | `(tactic| trivial) => `(tactic| with_reducible apply sv_asgTp)
local macro_rules | `(tactic| trivial) => `(tactic| ((with_reducible apply ev_box0); · exact rfl))
local macro_rules | `(tactic| trivial) => `(tactic| ((with_reducible apply ev_box1); · exact rfl))
local macro_rules | `(tactic| trivial) => `(tactic| ((with_reducible apply ev_box2); · exact rfl))
local macro_rules | `(tactic| trivial) => `(tactic| ((with_reducible apply ev_box3); · exact rfl))
local macro_rules | `(tactic| trivial) => `(tactic| with_reducible apply sv_asgLp)
local macro_rules | `(tactic| trivial) => `(tactic| ((with_reducible apply tg_lst); · exact rfl))
abbrev s__law_answers_right : Stmt := topS 55
theorem sc__law_answers_right : FnScope ["box", "answers", "passed", "good", "opened", "lot", "found", "low", "high", "item", "some", "fits_v"] ["box", "answers"] (defScope s__law_answers_right) := ⟨rfl, rfl, rfl, by decide +kernel, rfl, by decide +kernel, by decide +kernel⟩
theorem Ext.know {G H G' H' : Hp} {p : Addr} {o : HO} (e : Ext G H G' H') (n0 : H p = Option.none) (n1 : G' p = Option.none) (n2 : H' p = Option.some o) : Ext G H (upd G' p o) H' := by
  refine ⟨e.g.trans (same_new n1), e.h, fun c u z => ?_, fun c u z => ?_⟩
  · by_cases hc : c = p
    · subst hc
      rw [upd_same] at z
      rw [n2]
      exact z
    · rw [upd_ne hc] at z
      exact e.s c u z
  · by_cases hc : c = p
    · exact .inr (hc ▸ n0)
    · rw [upd_ne hc] at z
      exact e.f c u z
/-- _law_asked, all that it gives taken as data -/
theorem ev_asked {B : Cs} {Γ : Env} {Φ : Dt → Env → Prop} {ta : TA} {E : XK} (h : EvA B ta Γ fun ds Γ' => ∃ i a l, ds = [.int i, a, l] ∧ ∀ va vl, rAsked i a l va vl (fun d => Φ d Γ') (fun _ => False) fun x v => (v = va ∧ Φ (.lst [.str x, a]) Γ') ∨ (v = vl ∧ Φ (.lst [.str x, l]) Γ')) :
    Ev B (tCall (p_asked B.K) [] E ta) Γ Φ := fun gy hy w G H σ S Q k =>
  h gy hy w G H σ S _ fun vs ds Γ1 G1 H1 ⟨i, a, l, hl, hR⟩ s1 S1 D1 => by
    subst hl
    obtain ⟨vi, _, rfl, hi, va, _, rfl, hva, vl, r, rfl, hvl, hr⟩ := D1
    cases (show r = [] from hr)
    cases (show vi = V.int i from hi)
    refine ⟨G1, i, a, l, va, vl, _, _, _, rfl, S1.gh, hva, hvl, hR va vl, fun d hp v G' H' e D => k v d Γ1 G' H' hp (s1.trans e.g) (S1.ext e) D, fun _ z => z.elim, fun x v hx p G' H' e n0 n1 n2 => ?_⟩
    have e2 := e.know n0 n1 n2
    have s2 : Same G1 (upd G' p (.lst [.str x, v])) := e2.g
    rcases hx with ⟨rfl, hp⟩ | ⟨rfl, hp⟩
    · exact k (.ref p) _ Γ1 _ H' hp (s1.trans s2) (S1.ext e2) ⟨p, _, rfl, upd_same, _, _, rfl, rfl, v, [], rfl, Da.up s2 _ hva, rfl⟩
    · exact k (.ref p) _ Γ1 _ H' hp (s1.trans s2) (S1.ext e2) ⟨p, _, rfl, upd_same, _, _, rfl, rfl, v, [], rfl, Da.up s2 _ hvl, rfl⟩
theorem smo_an {n : Nat} {a : An} (h : a.lot ∈ sixL) : smo (n + 3) (anD a) = true := by
  have h1 : smo (n + 2) (dtQ a.isL a.lot) = true := by
    have h2 := six_small _ h
    have e : (a.lot.map Dt.int).all (smo (n + 1)) = true := by
      rw [List.all_map]
      exact List.all_eq_true.mpr fun x _ => rfl
    have e2 : decide ((a.lot.map Dt.int).length ≤ 1000) = true := decide_eq_true (by rw [List.length_map]; omega)
    cases a.isL with
    | true =>
      show (decide ((a.lot.map Dt.int).length ≤ 1000) && (a.lot.map Dt.int).all (smo (n + 1))) = true
      rw [e, e2]
      rfl
    | false =>
      show (decide ((a.lot.map Dt.int).length ≤ 1000) && (a.lot.map Dt.int).all (smo (n + 1))) = true
      rw [e, e2]
      rfl
  have h3 : smo (n + 2) (oi a.hi) = true := by cases a.hi <;> rfl
  show (decide (3 ≤ 1000) && (smo (n + 2) (dtQ a.isL a.lot) && (smo (n + 2) (.int a.lo) && (smo (n + 2) (oi a.hi) && true)))) = true
  rw [h1, h3]
  rfl
theorem smo_lot {n : Nat} {b : Bool} {x : List Int} (h : x ∈ sixL) : smo (n + 2) (dtQ b x) = true := by
  have h2 := six_small _ h
  have e : (x.map Dt.int).all (smo (n + 1)) = true := by
    rw [List.all_map]
    exact List.all_eq_true.mpr fun x _ => rfl
  have e2 : decide ((x.map Dt.int).length ≤ 1000) = true := decide_eq_true (by rw [List.length_map]; omega)
  cases b with
  | true =>
    show (decide ((x.map Dt.int).length ≤ 1000) && (x.map Dt.int).all (smo (n + 1))) = true
    rw [e, e2]
    rfl
  | false =>
    show (decide ((x.map Dt.int).length ≤ 1000) && (x.map Dt.int).all (smo (n + 1))) = true
    rw [e, e2]
    rfl
theorem lay_lot (n : Nat) (b : Bool) (x : List Int) : (dtQ b x).lay (n + 1) = true := by
  have e : (x.map Dt.int).all (Dt.lay n) = true := by
    rw [List.all_map]
    exact List.all_eq_true.mpr fun x _ => by cases n <;> rfl
  cases b with
  | true => exact e
  | false => exact e
/-- the item of the lot is open -/
def opn (b : Bd) (x : List Int) : Bool := !decide (some (lowestB b (lotN x)) = topsB b (lotN x))
section
variable {P : Program} {w : World} {K : PySem.W.Frag} {mg : Str → Option Value} {base : Heap} {f : Addr} {fd : FuncData}
abbrev p_answers_right (K : PySem.W.Frag) : Sp := PuB K 1 (fun _ => 100) (r1 fun a Ψ => ∃ l : List An, a = .lst (l.map anD) ∧ l.length ≤ 6 ∧ okL l ∧ (∀ a ∈ l, a.lo < 2 ^ 200) ∧ Ψ (.bl true))
theorem d__law_answers_right {CA CL : Addr} (B : Bi mg) (D__law_take : DefOk P w K mg base CX0 1 "_law_take" ["box", "many"] (p_take K)) (D__law_copy : DefOk P w K mg base CX0 1 "_law_copy" ["answers"] (p_copy K))
    (D__law_possible : DefOk P w K mg base CX0 3 "_law_possible" ["answers"] (p_law_possible K)) (D__law_same : ∀ n, DefOk P w K mg base CX0 n "_law_same" ["given", "due"] (p_same K n))
    (D_possible : DefOk P w K mg base (L2.CX P w) 9 "possible" ["answers"] (p_possible K CA)) (KW_possible : KwOk P w K mg base (L2.CX P w) 9 "possible" ["answers"] ["answers"] kwI (p_possible K CA))
    (KW_between : KwOk P w K mg base (L2.CX P w) 10 "between" ["answers", "lot"] ["lot", "answers"] kwS (p_between K CA CL)) (KW_open_lots : KwOk P w K mg base (L2.CX P w) 10 "open_lots" ["answers"] ["answers"] kwI (p_open_lots K CA))
    (D__law_lots_of : DefOk P w K mg base CX0 1 "_law_lots_of" [] (p_lots_of K)) (D__law_asked : DefOk P w K mg base CX0 11 "_law_asked" ["way", "answers", "lot"] (p_asked K))
    (D__law_between : DefOk P w K mg base CX0 4 "_law_between" ["answers", "lot"] (p_law_between K)) (D__law_put : DefOk P w K mg base CX0 1 "_law_put" ["answers", "lot", "low", "high"] (p_put K))
    (F : TopD K mg "_law_answers_right" s__law_answers_right ["box", "answers"] f fd) : DefOk P w K mg base CX0 12 "_law_answers_right" ["box", "answers"] (p_answers_right K) := by
  have D__law_same := D__law_same 8
  refine F.ok (F.fn.ok sc__law_answers_right (fun _ _ _ _ => PuB.len) (fun cdv A outer s H vs Q E hr h => ⟨_, (pss_cons (ps_par (i := 2) (j := 3) (by rfl) sc__law_answers_right.nd rfl rfl (by decide) rfl rfl (pa_cons (pe_d D__law_copy hr pass0 (pa_cons (pv 1) pa_nil)) (pa_cons (pe_d D__law_possible hr pass0 (pa_cons (pv 1) pa_nil)) pa_nil)) (by rfl))
      (pss_cons (ps_set (i := 2) sc__law_answers_right.nd rfl (.inl rfl) (pe_ifExp (pt_cmpR op_eq (pe_d D__law_take hr pass0 (pa_cons (pv 0) (pa_cons pe_int pa_nil))) pe_int (nomark _)) (pe_t (kTuple (K := K) rfl) B.tuple (pa_cons (pv 2) pa_nil)) (pv 2)))
      (pss_cons (ps_if (PW.pt (pw_or (pt_not (pt_val (pe_d D__law_same hr pass0 (pa_cons (pe_d D_possible hr passL (pa_cons (pv 2) pa_nil)) (pa_cons (pv 3) pa_nil))))) (pw_or1 (pt_not (pt_val (pe_d D__law_same hr pass0 (pa_cons (pe_kw KW_possible hr passL (pk_cons (pv 2) pk_nil)) (pa_cons (pv 3) pa_nil)))))))) (pss_one (ps_ret pe_bl)) pss_nil)
      (pss_cons (ps_set (i := 4) sc__law_answers_right.nd rfl (.inl rfl) (pe_lst pa_nil))
      (pss_cons (ps_for PassesOwn.never rfl (kSeq (K := K) rfl (pe_d0 D__law_lots_of hr pass0)) (pg_name (i := 5) sc__law_answers_right.nd rfl (.inl rfl)) (pss_cons (ps_set (i := 6) sc__law_answers_right.nd rfl (.inl rfl) (pe_d D__law_asked hr pass0 (pa_cons pe_int (pa_cons (pv 2) (pa_cons (pe_ifExp (pt_cmpR op_eq (pe_d D__law_take hr pass0 (pa_cons (pv 0) (pa_cons pe_int pa_nil))) pe_int (nomark _)) (pv 5) (pe_t (kTuple (K := K) rfl) B.tuple (pa_cons (pv 5) pa_nil))) pa_nil)))))
      (pss_one (ps_if (pt_not (pt_val (pv 3))) (pss_one (ps_if (PW.pt (pw_or (pt_cmpR op_ne (pe_ix (kIx (K := K) rfl) (pv 6) pe_int (fun _ _ => rfl)) pe_str (nomark _)) (pw_or1 (pt_cmpR (kNeD (K := K) rfl hr) (pe_ix (kIx (K := K) rfl) (pv 6) pe_int (fun _ _ => rfl)) (pv 2) (nomark _))))) (pss_one (ps_ret pe_bl)) pss_nil)) (pss_cons (ps_asg (pe_d D__law_between hr pass0 (pa_cons (pv 1) (pa_cons (pv 5) pa_nil))) (kTup (K := K) (n := 2) rfl rfl (pgs_cons (pg_name (i := 7) sc__law_answers_right.nd rfl (.inl rfl)) (pgs_cons (pg_name (i := 8) sc__law_answers_right.nd rfl (.inl rfl)) pgs_nil))))
      (pss_cons (ps_set (i := 4) sc__law_answers_right.nd rfl (.inl rfl) (pe_op op_cat (pv 4) (pe_op op_rep (pe_lst (pa_cons (pv 5) pa_nil)) (pe_t call_int1 B.int (pa_cons (pe_cmpR op_ne (pv 7) (pv 8) (nomark _)) pa_nil)))))
      (pss_cons (ps_if (PW.pt (pw_or (pt_not (pt_val (pe_d D__law_same hr pass0 (pa_cons (pv 6) (pa_cons (pe_lst (pa_cons pe_str (pa_cons (pe_tup (pa_cons (pv 7) (pa_cons (pv 8) pa_nil))) pa_nil))) pa_nil))))) (pw_or1 (pt_not (pt_val (pe_d D__law_same hr pass0 (pa_cons (pe_kw KW_between hr passL (pk_cons (pv 5) (pk_cons (pv 2) pk_nil))) (pa_cons (pe_tup (pa_cons (pv 7) (pa_cons (pv 8) pa_nil))) pa_nil)))))))) (pss_one (ps_ret pe_bl)) pss_nil)
      (pss_one (ps_for PassesOwn.never rfl (kSeq (K := K) rfl (pe_lst (pa_cons (pe_op op_sub (pv 7) pe_int) (pa_cons (pv 7) (pa_cons (pe_op op_add (pv 7) pe_int) (pa_cons (pv 8) (pa_cons (pe_ifExp (pt_cmpR op_isN (pv 8) pe_non (nomark _)) pe_non (pe_op op_add (pv 8) pe_int)) pa_nil))))))) (pg_name (i := 9) sc__law_answers_right.nd rfl (.inl rfl)) (pss_one (ps_if (PW.pt (pw_and (pt_cmpR op_notN (pv 9) pe_non (nomark _)) (pw_and1 (pt_cmpR op_ge (pv 9) pe_int (nomark _))))) (pss_cons (ps_set (i := 10) sc__law_answers_right.nd rfl (.inl rfl) (pe_d D__law_put hr pass0 (pa_cons (pv 1) (pa_cons (pv 5) (pa_cons (pv 9) (pa_cons (pv 9) pa_nil))))))
      (pss_cons (ps_set (i := 11) sc__law_answers_right.nd rfl (.inl rfl) (pe_and (pe_cmpR op_le (pv 7) (pv 9) (nomark _)) (pe_one (pe_or (pe_cmpR op_isN (pv 8) pe_non (nomark _)) (pe_one (pe_cmpR op_le (pv 9) (pv 8) (nomark _)))))))
      (pss_one (ps_if (pt_cmpR op_ne (pe_and (pe_cmpR op_notN (pv 10) pe_non (nomark _)) (pe_one (pe_d D__law_possible hr pass0 (pa_cons (pv 10) pa_nil)))) (pv 11) (nomark _)) (pss_one (ps_ret pe_bl)) pss_nil)))) pss_nil)))))))))))
      (pss_cons (ps_set (i := 6) sc__law_answers_right.nd rfl (.inl rfl) (pe_d D__law_asked hr pass0 (pa_cons pe_int (pa_cons (pv 2) (pa_cons pe_non pa_nil)))))
      (pss_cons (ps_if (pt_not (pt_val (pv 3))) (pss_one (ps_ret (pe_and (pe_cmpR op_eq (pe_ix (kIx (K := K) rfl) (pv 6) pe_int (fun _ _ => rfl)) pe_str (nomark _)) (pe_one (pe_cmpR (kEqD (K := K) rfl hr) (pe_ix (kIx (K := K) rfl) (pv 6) pe_int (fun _ _ => rfl)) (pv 2) (nomark _)))))) pss_nil)
      (pss_cons (ps_if (PW.pt (pw_or (pt_not (pt_val (pe_d D__law_same hr pass0 (pa_cons (pv 6) (pa_cons (pe_lst (pa_cons pe_str (pa_cons (pv 4) pa_nil))) pa_nil))))) (pw_or1 (pt_not (pt_val (pe_d D__law_same hr pass0 (pa_cons (pe_t (kList (K := K) rfl) B.list (pa_cons (pv 2) pa_nil)) (pa_cons (pv 1) pa_nil)))))))) (pss_one (ps_ret pe_bl)) pss_nil)
      (pss_cons (ps_expr (pe_bm PySem.F.plainAttrs_list PySem.F.slot_list_append PySem.F.type_list_append mt_append (pe_ix (kIx (K := K) rfl) (pv 6) pe_int (fun _ _ => rfl)) (pa_cons (pe_lst (pa_cons pe_int pa_nil)) pa_nil)))
      (pss_one (ps_ret (pe_d D__law_same hr pass0 (pa_cons (pe_kw KW_open_lots hr passL (pk_cons (pv 2) pk_nil)) (pa_cons (pv 4) pa_nil)))))))))))))),
    pb_start h (by decide) fun r a ds Ψ m hl hR => ?_⟩))
  try dsimp only [cxOf, Cx.nox]
  obtain ⟨v, rfl⟩ := ds1 hl
  dsimp only [r1] at hR
  obtain ⟨l, rfl, hl6, hok, hbig, hR⟩ := hR
  have eg := possT_eq hok
  have hlen : l.length ≤ 1000 := by omega
  have hokA : okAns l := ⟨hlen, fun c hc => (hok.2 c hc).1⟩
  refine sv_seq (sv_par (ev_call (ea_cons (ev_var rfl (ea_nil ⟨rfl, l, .lst _, hlen, ev_call (ea_cons (ev_var rfl (ea_nil ⟨rfl, l, .lst _, hokA, Nat.le_of_ble_eq_true rfl, Nat.le_of_ble_eq_true rfl, ?_⟩)))⟩)))))
  refine sv_seq (sv_asg (Ev.imp (Φ := fun d Γ' => ∃ b, d = pasD b l ∧ Γ' = [.box a (m + 99), .d (.lst (l.map anD)), .d (pasD false l), .d (.bl (possT l)), .any, .any, .any, .any, .any, .any, .any, .any]) ?_ ?_))
  · refine ev_if (et_test (ev_op (ev_callBL rfl (ea_cons (ev_i (ea_nil ⟨rfl, m + 99, _, rfl, Nat.le_refl _, 2, rfl, by decide, by decide, fun t t0 t1 => ?_⟩))))))
    refine ev_i ⟨_, opd_eqI, _, rfl, ?_⟩
    cases decide (t = 0) with
    | true => exact ev_cb (ea_cons (ev_var rfl (ea_nil ⟨_, cbd_tupL (.inl rfl), true, rfl, rfl⟩)))
    | false => exact ev_var rfl ⟨false, rfl, rfl⟩
  rintro _ _ ⟨b, rfl, rfl⟩
  refine ⟨Nat.le_of_ble_eq_true rfl, ?_⟩
  have hs3 := pas_small hok (by omega) b
  have hW := pas_ansW hok b
  have hG := pas_good hok b
  have hbd := pas_bd b l
  have hf : fitsB (bdA (pasD b l)) = possT l := by rw [hbd, eg]
  refine sv_seq (sv_if (et_or (et_not (et_B (ev_call (ea_cons (ev_callV01 (ea_cons (ev_var rfl (ea_nil ⟨_, rfl, fun x => ⟨hs3, fun _ => ?_, fun z => by rw [hW] at z; cases z⟩⟩))))))))))
  refine ea_cons (ev_var rfl (ea_nil ⟨rfl, ?_⟩))
  refine ⟨by rw [hf], rfl, _, rfl, ite_f rfl ?_⟩
  refine et_not (et_B (ev_call (ea_cons (ev_kw1 (ea_cons (ev_var rfl (ea_nil ⟨_, rfl, fun x => ⟨hs3, fun _ => ?_, fun z => by rw [hW] at z; cases z⟩⟩)))))))
  refine ea_cons (ev_var rfl (ea_nil ⟨rfl, ?_⟩))
  refine ⟨by rw [hf], rfl, _, rfl, ite_f rfl (sv_nx ?_)⟩
  refine sv_seq (sv_asg (EvN.ev (en_lst (ea_nil ⟨Nat.zero_le _, Nat.le_of_ble_eq_true rfl, ?_⟩))))
  have e99 : m + 99 = m + 93 + (6 - 0) := rfl
  rw [e99]
  refine sv_seq (sv_for (js := [5]) (src_seq (ev_call (ea_nil ⟨rfl, sixL.map (dtQ true), .lst _, fun i Γ => ∃ x5 x6 x7 x8 x9 x10 x11 : Arg, Γ = [.box a (m + 93 + (6 - i)), .d (.lst (l.map anD)), .d (pasD b l), .d (.bl (possT l)), .d (.lst ((if possT l then (sixL.take i).filter (opn (bdl l)) else []).map (dtQ true))), x5, x6, x7, x8, x9, x10, x11], ?_, ?_, ?_⟩))))
  · refine ⟨.any, .any, .any, .any, .any, .any, .any, ?_⟩
    have e0 : (if possT l then (sixL.take 0).filter (opn (bdl l)) else []) = ([] : List (List Int)) := by split <;> rfl
    rw [e0]
    rfl
  · rintro i Γ hi ⟨x5, x6, x7, x8, x9, x10, x11, rfl⟩
    have hi' : i < sixL.length := by rw [List.length_map] at hi; exact hi
    have h6 : i < 6 := hi'
    have hm6 : sixL[i] ∈ sixL := List.getElem_mem hi'
    have etk : sixL.take (i + 1) = sixL.take i ++ [sixL[i]] := by rw [List.take_add_one, List.getElem?_eq_getElem hi', Option.toList_some]; rfl
    dsimp only
    rw [itemOf_map hi', etk]
    generalize sixL[i] = lot at hm6
    refine tg_name (Nat.le_of_ble_eq_true rfl) ?_
    refine sv_seq (sv_asg (Ev.imp (Φ := fun d Γ' => (if possT l then d = .lst [.str told, .tup [.int (lowestB (bdl l) (lotN lot)), oi (topsB (bdl l) (lotN lot))]] else d = .lst [.str sAns, pasD b l]) ∧ Γ' = [.box a (m + 93 + (6 - (i + 1))), .d (.lst (l.map anD)), .d (pasD b l), .d (.bl (possT l)), .d (.lst ((if possT l then (sixL.take i).filter (opn (bdl l)) else []).map (dtQ true))), .d (dtQ true lot), x6, x7, x8, x9, x10, x11]) ?_ ?_))
    · refine ev_asked (ea_cons (ev_i (ea_cons (ev_var rfl (ea_cons (Ev.imp (Φ := fun d Γ' => ∃ b2, d = dtQ b2 lot ∧ Γ' = [.box a (m + 93 + (6 - (i + 1))), .d (.lst (l.map anD)), .d (pasD b l), .d (.bl (possT l)), .d (.lst ((if possT l then (sixL.take i).filter (opn (bdl l)) else []).map (dtQ true))), .d (dtQ true lot), x6, x7, x8, x9, x10, x11]) ?_ ?_))))))
      · refine ev_if (et_test (ev_op (ev_callBL rfl (ea_cons (ev_i (ea_nil ⟨rfl, m + 93 + (6 - (i + 1)), _, rfl, by show m + 93 + (6 - (i + 1)) + 1 ≤ m + 93 + (6 - i); omega, 2, rfl, by decide, by decide, fun t t0 t1 => ?_⟩))))))
        refine ev_i ⟨_, opd_eqI, _, rfl, ?_⟩
        cases decide (t = 0) with
        | true => exact ev_var rfl ⟨true, rfl, rfl⟩
        | false => exact ev_cb (ea_cons (ev_var rfl (ea_nil ⟨_, cbd_tupL (.inl rfl), false, rfl, rfl⟩)))
      · rintro _ _ ⟨b2, rfl, rfl⟩
        refine ea_nil ⟨2, _, _, rfl, fun va vl => ⟨hs3, .inr (.inr ⟨rfl, ?_, fun hg _ => ?_, fun _ hk => ?_, fun hg => ?_⟩)⟩⟩
        · show (dtQ b2 lot).items.length ≤ 1000
          have e1 : (dtQ b2 lot).items = lot.map .int := by cases b2 <;> rfl
          have := six_small _ hm6
          rw [e1, List.length_map]
          omega
        · rw [hG] at hg
          have e1 : (dtQ b2 lot).items.map Dt.toI = lot := by
            have gf : (lot.map Dt.int).map Dt.toI = lot := by
              rw [List.map_map]
              exact List.map_id'' (fun _ => rfl) lot
            cases b2 <;> exact gf
          rw [e1, hbd]
          exact ⟨by rw [if_pos hg], rfl⟩
        · rw [ask_six _ hm6] at hk
          cases hk
        · rw [hG] at hg
          exact .inl ⟨rfl, by rw [hg]; rfl, rfl⟩
    · rintro d _ ⟨hd, rfl⟩
      refine ⟨Nat.le_of_ble_eq_true rfl, sv_if (et_not (et_B (ev_var rfl ⟨_, rfl, ?_⟩)))⟩
      cases hp : possT l with
      | false =>
        rw [hp, if_neg Bool.false_ne_true] at hd
        subst hd
        refine ite_t rfl (sv_if (et_or (et_test (ev_op (ev_op (ev_var rfl (ev_i ⟨_, opd_ix (n := 0) (.lst _) rfl, ev_s ⟨_, opd_neS, _, rfl, ite_f (by rw [decide_eq_true (show sAns = Str.ofString "answers" from rfl)]; rfl) ?_⟩⟩)))))))
        refine et_test (ev_op (ev_op (ev_var rfl (ev_i ⟨_, opd_ix (n := 1) (.lst _) rfl, ev_var rfl ⟨_, opd_neL 3 (lay_pas b l) (lay_pas b l), _, rfl, ite_f (by rw [eqv_same (lay_pas b l)]; rfl) (sv_nx ?_)⟩⟩))))
        exact ⟨.d (dtQ true lot), .d (.lst [.str sAns, pasD b l]), x7, x8, x9, x10, x11, rfl⟩
      | true =>
        rw [hp, if_pos rfl] at hd
        subst hd
        refine ite_f rfl ?_
        have hfb : fitsB (bdl l) = true := by rw [← eg, hp]
        have hhv : (halv l lot).1 = lowestB (bdl l) (lotN lot) := halv_eq hok hfb hm6 hbig
        have htp : topsT l (ikey lot) = topsB (bdl l) (lotN lot) := topsT_eq hok lot hm6
        have hput := fun {x : Int} (hx : 0 ≤ x) => tried_item hok hfb hm6 (m := x) hx
        have eop : (sixL.take i ++ [lot]).filter (opn (bdl l)) = (sixL.take i).filter (opn (bdl l)) ++ if (!decide (some (lowestB (bdl l) (lotN lot)) = topsB (bdl l) (lotN lot))) = true then [lot] else [] := by
          rw [List.filter_append]
          congr 1
          simp only [List.filter_cons, List.filter_nil]
          rfl
        have hlow : isSix (lotN lot) := lotN_six' _ hm6
        have hol : ((sixL.take i).filter (opn (bdl l))).length ≤ 6 := by
          refine Nat.le_trans (List.length_filter_le _ _) ?_
          rw [List.length_take]
          exact Nat.min_le_right _ _
        rw [if_pos rfl, if_pos rfl, eop]
        generalize (sixL.take i).filter (opn (bdl l)) = old at hol
        generalize hle : lowestB (bdl l) (lotN lot) = low at *
        generalize hhe : topsB (bdl l) (lotN lot) = high at *
        refine sv_seq (sv_asgTp (js := [7] ++ ([8] ++ [])) (ev_call (ea_cons (ev_var rfl (ea_cons (ev_var rfl (ea_nil ⟨rfl, l, lot, true, .lst _, rfl, by omega, fun c hc => (hok.2 c hc).1, hm6, ?_⟩)))))))
        rw [hhv, htp]
        refine tg_tup rfl (tgl_cons (tg_name (Nat.le_of_ble_eq_true rfl) (tgl_cons (tg_name (Nat.le_of_ble_eq_true rfl) (tgl_nil ?_)))))
        have env : ∀ q : List Arg, q = [.box a (m + 93 + (6 - (i + 1))), .d (.lst (l.map anD)), .d (pasD b l), .d (.bl true), .d (.lst (old.map (dtQ true))), .d (dtQ true lot), .d (.lst [.str told, .tup [.int low, oi high]]), .d (.int low), .d (oi high), x9, x10, x11] → q = q := fun _ _ => rfl
        refine sv_seq (sv_asg (Ev.imp (Φ := fun d Γ' => d = .lst ((old ++ if (!decide (some low = high)) = true then [lot] else []).map (dtQ true)) ∧ Γ' = [.box a (m + 93 + (6 - (i + 1))), .d (.lst (l.map anD)), .d (pasD b l), .d (.bl true), .d (.lst (old.map (dtQ true))), .d (dtQ true lot), .d (.lst [.str told, .tup [.int low, oi high]]), .d (.int low), .d (oi high), x9, x10, x11]) ?_ ?_))
        · refine ev_op (ev_var rfl (ev_op (EvN.ev (en_lst (ea_cons (ev_var rfl (ea_nil ⟨Nat.le_of_ble_eq_true rfl, ?_⟩)))))))
          refine ev_cb (ea_cons (ev_op (ev_var rfl (ev_var rfl ⟨_, opd_neO (i := some low) (j := high), ea_nil ⟨_, cbd_intB, ?_⟩⟩))))
          cases (!decide (some low = high)) with
          | true =>
            refine ⟨_, opd_rep (n := 1) (by decide) (Nat.le_of_ble_eq_true rfl), _, opd_cat (by rw [List.length_map]; show old.length + 1 ≤ 100000; omega), ?_, rfl⟩
            rw [if_pos rfl, List.map_append]
            rfl
          | false =>
            refine ⟨_, opd_rep (n := 0) (by decide) (Nat.le_of_ble_eq_true rfl), _, opd_cat (by rw [List.length_map]; show old.length + 0 ≤ 100000; omega), ?_, rfl⟩
            rw [if_neg Bool.false_ne_true, List.map_append]
            rfl
        rintro _ _ ⟨rfl, rfl⟩
        refine ⟨Nat.le_of_ble_eq_true rfl, ?_⟩
        generalize (old ++ if (!decide (some low = high)) = true then [lot] else []).map (dtQ true) = newD
        have sm1 : smo 8 (.lst [.str told, .tup [.int low, oi high]]) = true := by cases high <;> rfl
        have sm2 : smo 8 (.tup [.int low, oi high]) = true := by cases high <;> rfl
        refine sv_seq (sv_if (et_or (et_not (et_B (ev_call (ea_cons ?_))))))
        refine ev_var rfl (ea_cons (EvN.ev (en_lst (ea_cons (ev_s (ea_cons ?_))))))
        refine ev_tup (ea_cons (ev_var rfl (ea_cons (ev_var rfl (ea_nil ⟨Nat.le_of_ble_eq_true rfl, ?_⟩)))))
        refine ea_nil ⟨Nat.le_of_ble_eq_true rfl, ea_nil ⟨rfl, rfl, sm1, _, rfl, ite_f rfl ?_⟩⟩
        refine et_not (et_B (ev_call (ea_cons ?_)))
        refine ev_kwS (ea_cons (ev_var rfl (ea_cons (ev_var rfl (ea_nil ⟨pasD b l, dtQ true lot, rfl, fun x y => ⟨hs3, ?_, fun _ _ => ?_, fun _ hk => ?_, fun hg => ?_⟩⟩)))))
        · show (dtQ true lot).items.length ≤ 1000
          have := six_small _ hm6
          show (lot.map Dt.int).length ≤ 1000
          rw [List.length_map]
          omega
        · have e1 : (dtQ true lot).items.map Dt.toI = lot := by
            show (lot.map Dt.int).map Dt.toI = lot
            rw [List.map_map]
            exact List.map_id'' (fun _ => rfl) lot
          rw [hbd, e1, hle, hhe]
          refine ea_cons (ev_tup (ea_cons (ev_var rfl (ea_cons (ev_var rfl (ea_nil ⟨Nat.le_of_ble_eq_true rfl, ea_nil ⟨rfl, rfl, sm2, _, rfl, ite_f rfl (sv_nx ?_)⟩⟩))))))
          refine sv_for (js := [9]) (src_seq (Ev.imp (Φ := fun d Γ' => ∃ os : List (Option Int), d = .lst (os.map oi) ∧ Γ' = [.box a (m + 93 + (6 - (i + 1))), .d (.lst (l.map anD)), .d (pasD b l), .d (.bl true), .d (.lst newD), .d (dtQ true lot), .d (.lst [.str told, .tup [.int low, oi high]]), .d (.int low), .d (oi high), x9, x10, x11]) ?_ ?_))
          · refine EvN.ev (en_lst (ea_cons (ev_op (ev_var rfl (ev_i ⟨_, opd_I0, ?_⟩)))))
            refine ea_cons (ev_var rfl (ea_cons (ev_op (ev_var rfl (ev_i ⟨_, opd_I0, ?_⟩)))))
            refine ea_cons (ev_var rfl (ea_cons (ev_if (et_test (ev_op (ev_var rfl (ev_n ⟨_, opd_isN, _, rfl, ?_⟩)))))))
            cases high with
            | none => exact ite_t rfl (ev_n (ea_nil ⟨Nat.le_of_ble_eq_true rfl, [some (low - 1), some low, some (low + 1), none, none], rfl, rfl⟩))
            | some hh => exact ite_f rfl (ev_op (ev_var rfl (ev_i ⟨_, opd_I0, ea_nil ⟨Nat.le_of_ble_eq_true rfl, [some (low - 1), some low, some (low + 1), some hh, some (hh + 1)], rfl, rfl⟩⟩)))
          rintro _ _ ⟨os, rfl, rfl⟩
          refine ⟨os.map oi, .lst _, fun _ Γ => ∃ x9 x10 x11 : Arg, Γ = [.box a (m + 93 + (6 - (i + 1))), .d (.lst (l.map anD)), .d (pasD b l), .d (.bl true), .d (.lst newD), .d (dtQ true lot), .d (.lst [.str told, .tup [.int low, oi high]]), .d (.int low), .d (oi high), x9, x10, x11], ⟨x9, x10, x11, rfl⟩, ?_, ?_⟩
          · rintro j Γ hj ⟨x9, x10, x11, rfl⟩
            have hj' : j < os.length := by rw [List.length_map] at hj; exact hj
            rw [itemOf_map hj']
            generalize os[j] = o
            refine tg_name (Nat.le_of_ble_eq_true rfl) (sv_if (et_and (et_test (ev_op (ev_var rfl (ev_n ⟨_, opd_notN, _, rfl, ?_⟩))))))
            cases o with
            | none => exact ite_f rfl (ite_f rfl (sv_nx ⟨_, x10, x11, rfl⟩))
            | some x =>
              refine ite_t rfl (et_test (ev_op (ev_var rfl (ev_i ⟨_, opd_B0, _, rfl, ?_⟩))))
              by_cases hx : 0 ≤ x
              · have hq := hput hx
                refine ite_t (decide_eq_true hx) ?_
                refine sv_seq (sv_asg (Ev.imp (Φ := fun d Γ' => d = (match putM l lot x (some x) with
                  | some l' => Dt.lst (l'.map anD)
                  | none => .non) ∧ Γ' = [.box a (m + 93 + (6 - (i + 1))), .d (.lst (l.map anD)), .d (pasD b l), .d (.bl true), .d (.lst newD), .d (dtQ true lot), .d (.lst [.str told, .tup [.int low, oi high]]), .d (.int low), .d (oi high), .d (.int x), x10, x11]) ?_ ?_))
                · refine ev_call (ea_cons (ev_var rfl (ea_cons (ev_var rfl (ea_cons (ev_var rfl (ea_cons (ev_var rfl (ea_nil ?_)))))))))
                  refine ⟨rfl, l, lot, x, some x, .lst _, seqQ true lot, rfl, rfl, hlen, ?_, fun l' hl' => ⟨by rw [hl'], rfl⟩, fun hn => ⟨by rw [hn], rfl⟩⟩
                  have := six_small _ hm6
                  omega
                rintro _ _ ⟨rfl, rfl⟩
                refine ⟨Nat.le_of_ble_eq_true rfl, ?_⟩
                generalize hS : (match putM l lot x (some x) with
                  | some l' => Dt.lst (l'.map anD)
                  | none => .non) = dS
                refine sv_seq (sv_asg (Ev.imp (Φ := fun d Γ' => d = .bl (decide (low ≤ x) && fitO x high) ∧ Γ' = [.box a (m + 93 + (6 - (i + 1))), .d (.lst (l.map anD)), .d (pasD b l), .d (.bl true), .d (.lst newD), .d (dtQ true lot), .d (.lst [.str told, .tup [.int low, oi high]]), .d (.int low), .d (oi high), .d (.int x), .d dS, x11]) ?_ ?_))
                · refine ev_and (ev_op (ev_var rfl (ev_var rfl ⟨_, opd_B0, _, rfl, ?_⟩)))
                  cases decide (low ≤ x) with
                  | false => exact ite_f rfl ⟨rfl, rfl⟩
                  | true =>
                    refine ite_t rfl (ev_or (ev_op (ev_var rfl (ev_n ⟨_, opd_isN, _, rfl, ?_⟩))))
                    cases high with
                    | none => exact ite_t rfl ⟨rfl, rfl⟩
                    | some hh => exact ite_f rfl (ev_op (ev_var rfl (ev_var rfl ⟨_, opd_B0, rfl, rfl⟩)))
                rintro _ _ ⟨rfl, rfl⟩
                refine ⟨Nat.le_of_ble_eq_true rfl, ?_⟩
                refine sv_if (et_test (ev_op (Ev.imp (Φ := fun d Γ' => d = .bl (decide (low ≤ x) && fitO x high) ∧ Γ' = [.box a (m + 93 + (6 - (i + 1))), .d (.lst (l.map anD)), .d (pasD b l), .d (.bl true), .d (.lst newD), .d (dtQ true lot), .d (.lst [.str told, .tup [.int low, oi high]]), .d (.int low), .d (oi high), .d (.int x), .d dS, .d (.bl (decide (low ≤ x) && fitO x high))]) ?_ ?_)))
                · refine ev_and (ev_op (ev_var rfl (ev_n ⟨_, opd_notN, _, rfl, ?_⟩)))
                  unfold triedM at hq
                  cases hpm : putM l lot x (some x) with
                  | none =>
                    rw [hpm] at hS hq
                    subst hS
                    exact ite_f rfl ⟨by rw [← hq], rfl⟩
                  | some l' =>
                    rw [hpm] at hS hq
                    subst hS
                    refine ite_t rfl (ev_call (ea_cons (ev_var rfl (ea_nil ⟨rfl, l', .lst _, putM_ok hpm (by omega) (fun c hc => (hok.2 c hc).1) hm6, ?_, rfl⟩))))
                    have hq' : possT l' = (decide (low ≤ x) && fitO x high) := hq
                    rw [hq']
                rintro _ _ ⟨rfl, rfl⟩
                refine ev_var rfl ⟨_, opd_neB, _, rfl, ite_f (by rw [decide_eq_true rfl]; rfl) (sv_nx ⟨_, _, _, rfl⟩)⟩
              · exact ite_f (decide_eq_false hx) (sv_nx ⟨_, x10, x11, rfl⟩)
          · rintro Γ ⟨x9, x10, x11, rfl⟩
            exact ⟨_, _, _, _, _, _, _, rfl⟩
        · rw [ask_six _ hm6] at hk
          cases hk
        · have hg' : goodA (pasD b l) = true := by rw [hG, hp]
          rw [hg'] at hg
          cases hg
  · rintro Γ ⟨x5, x6, x7, x8, x9, x10, x11, rfl⟩
    dsimp only
    rw [List.length_map, List.take_length, show 6 - sixL.length = 0 from rfl]
    have hop : sixL.filter (opn (bdl l)) = opens (bdl l) := rfl
    rw [hop]
    cases hp : possT l with
    | false =>
      rw [if_neg Bool.false_ne_true]
      refine sv_seq (sv_asg (Ev.imp (Φ := fun d Γ' => d = .lst [.str sAns, pasD b l] ∧ Γ' = [.box a (m + 93 + 0), .d (.lst (l.map anD)), .d (pasD b l), .d (.bl false), .d (.lst ([].map (dtQ true))), x5, x6, x7, x8, x9, x10, x11]) ?_ ?_))
      · refine ev_asked (ea_cons (ev_i (ea_cons (ev_var rfl (ea_cons (ev_n (ea_nil ⟨1, _, _, rfl, fun va vl => ⟨hs3, .inr (.inl ⟨rfl, fun hg => ?_, fun _ => .inl ⟨rfl, rfl, rfl⟩⟩)⟩⟩)))))))
        rw [hG, hp] at hg
        cases hg
      rintro _ _ ⟨rfl, rfl⟩
      refine ⟨Nat.le_of_ble_eq_true rfl, sv_seq (sv_if (et_not (et_B (ev_var rfl ⟨_, rfl, ite_t rfl ?_⟩))))⟩
      refine sv_ret (ev_and (ev_op (ev_op (ev_var rfl (ev_i ⟨_, opd_ix (n := 0) (.lst _) rfl, ev_s ⟨_, opd_eqS, _, rfl, ite_t (decide_eq_true (show sAns = Str.ofString "answers" from rfl)) ?_⟩⟩)))))
      refine ev_op (ev_op (ev_var rfl (ev_i ⟨_, opd_ix (n := 1) (.lst _) rfl, ev_var rfl ⟨_, opd_eqL 3 (lay_pas b l) (lay_pas b l), ⟨m + 93, by omega, rfl⟩, ?_⟩⟩)))
      rw [eqv_same (lay_pas b l)]
      exact hR
    | true =>
      rw [if_pos rfl]
      intro gy hy w0 G H1 σ D S0 k1 k2 k3 k4
      have S := ((((((S0.any 5).any 6).any 7).any 8).any 9).any 10).any 11
      obtain ⟨vp, e2, Dp⟩ := S.var (i := 2) (d := pasD b l) rfl
      refine ⟨vp, e2, G, 1, pasD b l, .non, vp, .non, fun _ => False, fun es => es = (opens (bdl l)).map (dtQ true), fun _ _ => False, rfl, S.gh, Dp, rfl, ⟨hs3, .inr (.inl ⟨rfl, fun _ => by rw [hbd, opens_eq], fun hg => ?_⟩)⟩, fun _ z => z.elim, ?_, fun _ _ z => z.elim⟩
      · rw [hG, hp] at hg
        cases hg
      rintro es rfl p q xs G' H' e np nq ne gp gq hpp hqq Dx
      -- both new lists known
      have eq1 := e.know nq gq hqq
      have gp1 : (upd G' q (.lst xs)) p = none := by rw [upd_ne ne]; exact gp
      have eq2 := eq1.know np gp1 hpp
      have hp2 : (upd (upd G' q (.lst xs)) p (.lst [.str told, .ref q])) p = some (.lst [.str told, .ref q]) := upd_same
      have hq2 : (upd (upd G' q (.lst xs)) p (.lst [.str told, .ref q])) q = some (.lst xs) := by rw [upd_ne ne.symm, upd_same]
      have sG : Same G' (upd (upd G' q (.lst xs)) p (.lst [.str told, .ref q])) := (same_new gq).trans (same_new gp1)
      generalize upd (upd G' q (.lst xs)) p (.lst [.str told, .ref q]) = G1 at eq2 hp2 hq2 sG
      have Dx1 := DaL.up sG _ Dx
      have Dp1 : Da K G1 (.ref p) (.lst [.str told, .lst ((opens (bdl l)).map (dtQ true))]) := ⟨p, _, rfl, hp2, _, _, rfl, rfl, _, _, rfl, ⟨q, xs, rfl, hq2, Dx1⟩, rfl⟩
      obtain ⟨sb0, gb0, hb0, bx0⟩ := S.sl 0 (.box a (m + 93 + 0)) rfl
      have pa : p ≠ a := fun z => by
        obtain ⟨_, _, _, _, z1, _⟩ := bx0
        rw [z, z1] at np
        cases np
      have qa : q ≠ a := fun z => by
        obtain ⟨_, _, _, _, z1, _⟩ := bx0
        rw [z, z1] at nq
        cases nq
      have hpy : ∀ c, hy.p c → c ≠ a ∧ H' c ≠ none := fun c z => by
        have n0 := hy.q c z
        obtain ⟨o, ho⟩ := Option.ne_none_iff_exists'.mp n0
        have h1 := S.hx c o ho
        exact ⟨ne_of_none ho hb0, by rw [e.h c o h1]; exact fun z => nomatch z⟩
      have T1 : Sl (Cs.b (r.at K noW noX) gy hy) G1 H' (σ.set 6 (some (.ref p))) [.box a (m + 93 + 0), .d (.lst (l.map anD)), .d (pasD b l), .d (.bl true), .d (.lst ((opens (bdl l)).map (dtQ true))), .any, .d (.lst [.str told, .lst ((opens (bdl l)).map (dtQ true))]), .any, .any, .any, .any, .any] :=
        (S.ext eq2).setD (i := 6) Dp1 (Nat.le_of_ble_eq_true rfl)
      have w2 : Wy (r.at K noW noX) G1 (hyBut hy H' a hpy) := ⟨w0.wok, (w0.gy.trans S.gx).trans eq2.g, fun c o z => by
        have z1 := w0.hy c o z
        show (if c = a then none else H' c) = some o
        rw [if_neg (ne_of_none z1 hb0)]
        exact e.h c o (S.hx c o z1), fun c z => w0.hp c z⟩
      have T2 : Sl (Cs.b (r.at K noW noX) G1 (hyBut hy H' a hpy)) G1 H' (σ.set 6 (some (.ref p))) [.box a (m + 93 + 0), .d (.lst (l.map anD)), .d (pasD b l), .d (.bl true), .d (.lst ((opens (bdl l)).map (dtQ true))), .any, .d (.lst [.str told, .lst ((opens (bdl l)).map (dtQ true))]), .any, .any, .any, .any, .any] :=
        Sl.base (b := Cs.b (r.at K noW noX) gy hy) (Gy := G1) (Hy := hyBut hy H' a hpy) T1 (Same.refl _) (fun c o z => by
          have z1 : (if c = a then none else H' c) = some o := z
          split at z1
          · cases z1
          · exact z1) T1.px fun j β p' h1 h2 h3 => by
            show (if p' = a then none else H' p') = none
            match j, h1, h3 with
            | 0, h1, h3 =>
              cases h1
              have z : some (some (V.ref p')) = some (some (V.ref a)) := h3.symm.trans (T1.sl 0 _ rfl).1
              cases z
              exact if_pos rfl
            | 1, h1, _ => cases h1; cases h2
            | 2, h1, _ => cases h1; cases h2
            | 3, h1, _ => cases h1; cases h2
            | 4, h1, _ => cases h1; cases h2
            | 5, h1, _ => cases h1; cases h2
            | 6, h1, _ => cases h1; cases h2
            | 7, h1, _ => cases h1; cases h2
            | 8, h1, _ => cases h1; cases h2
            | 9, h1, _ => cases h1; cases h2
            | 10, h1, _ => cases h1; cases h2
            | 11, h1, _ => cases h1; cases h2
            | _ + 12, h1, _ => cases h1
      have sm3 : smo 8 (.lst [.str told, .lst ((opens (bdl l)).map (dtQ true))]) = true := by
        have z : ((opens (bdl l)).map (dtQ true)).all (smo 6) = true := List.all_eq_true.mpr fun d hd => by
          obtain ⟨x, hx, rfl⟩ := List.mem_map.mp hd
          exact smo_lot (List.mem_filter.mp hx).1
        have z2 : decide (((opens (bdl l)).map (dtQ true)).length ≤ 1000) = true := decide_eq_true (by
          rw [List.length_map]
          exact Nat.le_trans (List.length_filter_le _ _) (by decide))
        show (decide (2 ≤ 1000) && (smo 7 (.str told) && ((decide (((opens (bdl l)).map (dtQ true)).length ≤ 1000) && ((opens (bdl l)).map (dtQ true)).all (smo 6)) && true))) = true
        rw [z, z2]
        rfl
      have sm4 : smo 8 (.lst (l.map anD)) = true := by
        have z : (l.map anD).all (smo 7) = true := List.all_eq_true.mpr fun d hd => by
          obtain ⟨x, hx, rfl⟩ := List.mem_map.mp hd
          exact smo_an (hok.2 x hx).1
        have z2 : decide ((l.map anD).length ≤ 1000) = true := decide_eq_true (by rw [List.length_map]; omega)
        show (decide ((l.map anD).length ≤ 1000) && (l.map anD).all (smo 7)) = true
        rw [z, z2]
        rfl
      have sm5 : smo 8 (.lst ((opens (bdl l)).map (dtQ true))) = true := by
        have z : ((opens (bdl l)).map (dtQ true)).all (smo 7) = true := List.all_eq_true.mpr fun d hd => by
          obtain ⟨x, hx, rfl⟩ := List.mem_map.mp hd
          exact smo_lot (List.mem_filter.mp hx).1
        have z2 : decide (((opens (bdl l)).map (dtQ true)).length ≤ 1000) = true := decide_eq_true (by
          rw [List.length_map]
          exact Nat.le_trans (List.length_filter_le _ _) (by decide))
        show (decide (((opens (bdl l)).map (dtQ true)).length ≤ 1000) && ((opens (bdl l)).map (dtQ true)).all (smo 7)) = true
        rw [z, z2]
        rfl
      have hol : (opens (bdl l)).length ≤ 6 := Nat.le_trans (List.length_filter_le _ _) (by decide)
      generalize hE : [Arg.box a (m + 93 + 0), .d (.lst (l.map anD)), .d (pasD b l), .d (.bl true), .d (.lst ((opens (bdl l)).map (dtQ true))), .any, .d (.lst [.str told, .lst ((opens (bdl l)).map (dtQ true))]), .any, .any, .any, .any, .any] = Γ3 at T1 T2
      have q1 : EvT (r.at K noW noX) (tNot (tB (tVar 3))) Γ3 (fun c Γ' => c = false ∧ Γ' = Γ3) := by
        subst hE
        exact et_not (et_B (ev_var rfl ⟨_, rfl, rfl, rfl⟩))
      show tSeq (tIfS (tNot (tB (tVar 3))) _ _) _ D (σ.set 6 (some (.ref p))) H'
      refine seq_run (ifs_run (q1 G1 (hyBut hy H' a hpy) w2 G1 H' _ T2 _ fun c Γ4 G4 H4 ⟨ec, eΓ⟩ s4 S4 => ?_))
      subst ec eΓ
      refine ite_f rfl ?_
      refine next_run ?_
      dsimp only
      refine seq_run (ifs_run ?_)
      have q2 : EvT (r.at K noW noX) (tOr (tNot (tB (tCall (p_same K 8) [] E0 (tCons (tVar 6) (tCons (tLst (tCons (tC (V.str (Str.ofString "told"))) (tCons (tVar 4) tNil))) tNil)))))
          (tNot (tB (tCall (p_same K 8) [] E0 (tCons (tCB (fun xs H Q => ∃ p ys, xs = [V.ref p] ∧ (SqL K H p ys ∨ SqT K H p ys) ∧ ∀ (l : Addr), H l = none → Q (V.ref l) (upd H l (HO.lst ys))) (tCons (tVar 2) tNil)) (tCons (tVar 1) tNil)))))) Γ4 (fun c Γ' => c = false ∧ Γ' = Γ4) := by
        subst hE
        refine et_or (et_not (et_B (ev_call (ea_cons (ev_var rfl (ea_cons ?_))))))
        refine EvN.ev (en_lst (ea_cons (ev_s (ea_cons (ev_var rfl (ea_nil ⟨Nat.le_of_ble_eq_true rfl, ea_nil ?_⟩))))))
        refine ⟨rfl, rfl, sm3, _, rfl, ite_f rfl ?_⟩
        refine et_not (et_B (ev_call (ea_cons (EvN.ev (en_cb (ea_cons (ev_var rfl (ea_nil ⟨_, cbn_list (pas_seq b l), ?_⟩))))))))
        exact ea_cons (ev_var rfl (ea_nil ⟨rfl, rfl, sm4, _, rfl, rfl, rfl⟩))
      refine q2 G1 (hyBut hy H' a hpy) w2 G4 H4 _ S4 _ fun c Γ5 G5 H5 ⟨ec, eΓ⟩ s5 S5 => ?_
      subst ec eΓ
      refine ite_f rfl ?_
      refine next_run ?_
      dsimp only
      -- found[1].append([7])
      have keep : ∀ c o, H' c = some o → c ≠ a → H5 c = some o := fun c o z n => S5.hx c o (by
        show (if c = a then none else H' c) = some o
        rw [if_neg n]
        exact z)
      have p5 : H5 p = some (.lst [.str told, .ref q]) := keep p _ hpp pa
      have q5 : H5 q = some (.lst xs) := keep q _ hqq qa
      have hx6 : xs.length ≤ 6 := by
        rw [DaL.len Dx, List.length_map]
        exact hol
      have z6 : (σ.set 6 (some (.ref p)))[6]? = some (some (.ref p)) := by
        have z := T1.len
        rw [← hE, List.length_set] at z
        exact List.getElem?_set_self (by rw [← z]; exact Nat.le_of_ble_eq_true rfl)
      refine seq_run ⟨.ref p, z6, .inl ⟨p, [.str told, .ref q], 1, .ref q, rfl, rfl, .inl (.inl p5), rfl, .inl ⟨rfl, xs, .inl (.inl q5)⟩, ⟨by show 1 ≤ sizeLine; decide, fun p7 n7 => ?_⟩⟩⟩
      have q7 : q ≠ p7 := ne_of_none q5 n7
      have a5 : ∃ o, H5 a = some o := by
        have z := S5.sl 0 (.box a (m + 93 + 0)) (by rw [← hE]; rfl)
        obtain ⟨_, _, _, _, _, _, _, z1, _⟩ := z
        exact ⟨_, z1⟩
      have b5 : BoxSt (m + 93) H5 a := by
        have z := S5.sl 0 (.box a (m + 93 + 0)) (by rw [← hE]; rfl)
        exact z.2.2.2
      have a7 : a ≠ p7 := fun z => by
        obtain ⟨o, z1⟩ := a5
        rw [z, n7] at z1
        cases z1
      refine ⟨q, xs, .ref p7, rfl, rfl, by rw [upd_ne q7]; exact q5, Nat.lt_of_le_of_lt hx6 (by decide), ?_⟩
      dsimp only
      have eB : ExtB a G H1 G (upd (upd H5 p7 (.lst [.int 7])) q (.lst (xs ++ [.ref p7]))) := by
        have h7 : ∀ c o, c ≠ a → H1 c = some o → (upd (upd H5 p7 (.lst [.int 7])) q (.lst (xs ++ [.ref p7]))) c = some o := fun c o n z => by
          have z5 := keep c o (e.h c o z) n
          rw [upd_ne (ne_of_none z nq), upd_ne (ne_of_none z5 n7)]
          exact z5
        exact ⟨Same.refl _, h7, fun c o z => h7 c o (ne_of_none z gb0) (S.gh c o z), fun c o z => .inl z⟩
      have b7 : BoxSt (m + 93) (upd (upd H5 p7 (.lst [.int 7])) q (.lst (xs ++ [.ref p7]))) a := by
        obtain ⟨g, bb, mm, cc, z1, z2⟩ := b5
        exact ⟨g, bb, mm, cc, by rw [upd_ne qa.symm, upd_ne a7]; exact z1, z2⟩
      have S7 := (S.extB (i := 0) rfl eB b7).setV (i := 6) (v := .ref p)
      have fin : Sv (r.at K noW noX) (tRet (tCall (p_same K 8) [] E0 (tCons (tCallN 0 [Str.ofString "answers"].length (p_open_lots K CA) kwI E0 tNil (tCons (tVar 2) tNil)) (tCons (tVar 4) tNil))))
          [.box a (m + 93), .d (.lst (l.map anD)), .d (pasD b l), .d (.bl true), .d (.lst ((opens (bdl l)).map (dtQ true))), .any, .v (.ref p), .any, .any, .any, .any, .any]
          { nx := fun Γ => (∃ m', m ≤ m' ∧ Γ[0]? = some (.box a m')) ∧ Ψ .non, rt := fun d Γ => (∃ m', m ≤ m' ∧ Γ[0]? = some (.box a m')) ∧ Ψ d } := by
        refine sv_ret (ev_call (ea_cons (EvN.ev (en_kw1 (ea_cons (ev_var rfl (ea_nil ⟨_, rfl, fun x => ⟨hs3, fun _ => ?_, fun hg => ?_⟩⟩)))))))
        · rw [hbd, opens_eq]
          exact ea_cons (ev_var rfl (ea_nil ⟨rfl, rfl, sm5, ⟨m + 93, by omega, rfl⟩, hR⟩))
        · rw [hG, hp] at hg
          cases hg
      exact fin gy hy w0 G _ _ D S7 (fun Γ' G' H' σ' z s' => k1 Γ' G' H' σ' z s') (fun d v Γ' G' H' σ' z s' => k2 d v Γ' G' H' σ' z s') (fun _ _ _ _ z => z.elim) (fun _ _ _ _ z => z.elim)
end
end Cp
/-! K81q: wrong values are refused -/
namespace Cp
open PySem PySem.Spec PyProof.Rows L2
local macro_rules | `(tactic| trivial) => `(tactic| with_reducible refine ea_nil ?_)
local macro_rules | `(tactic| trivial) => `(tactic| with_reducible refine ea_cons ?_)
local macro_rules | `(tactic| trivial) => `(tactic| with_reducible refine et_test ?_)
local macro_rules | `(tactic| trivial) => `(tactic| with_reducible refine et_yes ?_)
local macro_rules | `(tactic| trivial) => `(tactic| with_reducible refine et_B ?_)
local macro_rules | `(tactic| trivial) => `(tactic| with_reducible refine ev_lenS ?_)
local macro_rules | `(tactic| trivial) => `(tactic| with_reducible refine et_and ?_)
local macro_rules | `(tactic| trivial) => `(tactic| with_reducible refine et_or ?_)
local macro_rules | `(tactic| trivial) => `(tactic| with_reducible refine et_not ?_)
local macro_rules | `(tactic| trivial) => `(tactic| with_reducible refine ev_if ?_)
local macro_rules | `(tactic| trivial) => `(tactic| with_reducible refine ev_chain ?_)
local macro_rules | `(tactic| trivial) => `(tactic| with_reducible refine ev_and ?_)
local macro_rules | `(tactic| trivial) => `(tactic| with_reducible refine ev_or ?_)
local macro_rules | `(tactic| trivial) => `(tactic| with_reducible refine ev_not ?_)
local macro_rules | `(tactic| trivial) => `(tactic| with_reducible refine ev_op ?_)
local macro_rules | `(tactic| trivial) => `(tactic| with_reducible refine ev_cb ?_)
local macro_rules | `(tactic| trivial) => `(tactic| with_reducible refine ev_isi kit_int ?_)
local macro_rules | `(tactic| trivial) => `(tactic| with_reducible refine ev_isi kit_bool ?_)
local macro_rules | `(tactic| trivial) => `(tactic| with_reducible refine ev_isi kit_str ?_)
local macro_rules | `(tactic| trivial) => `(tactic| with_reducible refine ev_isi kit_list ?_)
local macro_rules | `(tactic| trivial) => `(tactic| with_reducible refine ev_isi kit_tuple ?_)
local macro_rules | `(tactic| trivial) => `(tactic| with_reducible refine ev_isi2 kit_list kit_tuple ?_)
local macro_rules | `(tactic| trivial) => `(tactic| with_reducible refine ev_call ?_)
local macro_rules | `(tactic| trivial) => `(tactic| with_reducible refine ev_tup ?_)
local macro_rules | `(tactic| trivial) => `(tactic| with_reducible refine ev_i ?_)
local macro_rules | `(tactic| trivial) => `(tactic| with_reducible refine ev_b ?_)
local macro_rules | `(tactic| trivial) => `(tactic| with_reducible refine ev_n ?_)
local macro_rules | `(tactic| trivial) => `(tactic| with_reducible refine ev_s ?_)
local macro_rules | `(tactic| trivial) => `(tactic| ((with_reducible apply ev_var); · exact rfl))
local macro_rules | `(tactic| trivial) => `(tactic| ((with_reducible apply ev_varV); (· exact rfl); (· assumption)))
local macro_rules | `(tactic| trivial) => `(tactic| with_reducible refine sv_ret ?_)
local macro_rules | `(tactic| trivial) => `(tactic| with_reducible refine sv_if ?_)
local macro_rules | `(tactic| trivial) => `(tactic| (with_reducible refine sv_nx ?_))
local macro_rules | `(tactic| trivial) => `(tactic| ((with_reducible apply le_and); · exact rfl))
local macro_rules | `(tactic| trivial) => `(tactic| ((with_reducible apply lt_and); · exact rfl))
local macro_rules | `(tactic| trivial) => `(tactic| ((with_reducible apply ex_and); · exact rfl))
local macro_rules | `(tactic| trivial) => `(tactic| (((with_reducible apply eq_and); · exact rfl); try dsimp only [r0, r1, r2, r3, r4, x1, x2]))
local macro_rules | `(tactic| trivial) => `(tactic| with_reducible refine ⟨_, opd_I0, ?_⟩)
local macro_rules | `(tactic| trivial) => `(tactic| with_reducible refine ⟨_, opd_B0, ?_⟩)
local macro_rules | `(tactic| trivial) => `(tactic| with_reducible refine ⟨_, opd_isN, ?_⟩)
local macro_rules | `(tactic| trivial) => `(tactic| with_reducible refine ⟨_, opd_notN, ?_⟩)
local macro_rules | `(tactic| trivial) => `(tactic| with_reducible refine ⟨_, opd_isB, ?_⟩)
local macro_rules | `(tactic| trivial) => `(tactic| with_reducible refine ⟨_, opd_eqI, ?_⟩)
local macro_rules | `(tactic| trivial) => `(tactic| with_reducible refine ⟨_, opd_neI, ?_⟩)
local macro_rules | `(tactic| trivial) => `(tactic| ((with_reducible apply ite_t); · exact rfl))
local macro_rules | `(tactic| trivial) => `(tactic| ((with_reducible apply ite_f); · exact rfl))
local macro_rules | `(tactic| trivial) => `(tactic| with_reducible refine sv_seq ?_)
local macro_rules | `(tactic| trivial) => `(tactic| with_reducible refine tgl_nil ?_)
local macro_rules | `(tactic| trivial) => `(tactic| with_reducible apply tgl_cons)
local macro_rules | `(tactic| trivial) => `(tactic| ((with_reducible apply tg_tup); · exact rfl))
local macro_rules | `(tactic| trivial) => `(tactic| ((with_reducible apply tg_sqt); · exact rfl))
local macro_rules | `(tactic| trivial) => `(tactic| ((with_reducible refine tg_name ?_ ?_); · exact Nat.le_of_ble_eq_true rfl))
local macro_rules | `(tactic| trivial) => `(tactic| with_reducible refine sv_drop (te := tCallS _ _ _) ?_)
local macro_rules | `(tactic| trivial) => `(tactic| with_reducible refine sv_asg (te := tOp _ _ _) ?_)
local macro_rules | `(tactic| trivial) => `(tactic| with_reducible refine sv_asg (te := tCall _ _ _ _) ?_)
local macro_rules | `(tactic| trivial) => `(tactic| with_reducible refine sv_asg (te := tCallS _ _ _) ?_)
local macro_rules | `(tactic| trivial) => `(tactic| with_reducible refine sv_asg (te := tIf _ _ _) ?_)
local macro_rules | `(tactic| trivial) => `(tactic| with_reducible refine sv_asg (te := tVar _) ?_)
local macro_rules | `(tactic| trivial) => `(tactic| with_reducible refine sv_asg (te := tC _) ?_)
local macro_rules | `(tactic| trivial) => `(tactic| with_reducible refine sv_asg (te := tTup _) ?_)
local macro_rules | `(tactic| trivial) => `(tactic| with_reducible refine sv_asg (te := tAndV _ _) ?_)
local macro_rules | `(tactic| trivial) => `(tactic| with_reducible refine sv_asg (te := tOrV _ _) ?_)
local macro_rules | `(tactic| trivial) => `(tactic| with_reducible refine sv_asg (te := tNotV _) ?_)
local macro_rules | `(tactic| trivial) => `(tactic| with_reducible refine sv_asg (te := tDGet _ _) ?_)
local macro_rules | `(tactic| trivial) => `(tactic| with_reducible refine sv_asg (te := tUn _ _) ?_)
local macro_rules | `(tactic| trivial) => `(tactic| with_reducible apply sv_asgTp)
local macro_rules | `(tactic| trivial) => `(tactic| ((with_reducible apply ev_box0); · exact rfl))
local macro_rules | `(tactic| trivial) => `(tactic| ((with_reducible apply ev_box1); · exact rfl))
local macro_rules | `(tactic| trivial) => `(tactic| ((with_reducible apply ev_box2); · exact rfl))
local macro_rules | `(tactic| trivial) => `(tactic| ((with_reducible apply ev_box3); · exact rfl))
local macro_rules | `(tactic| trivial) => `(tactic| with_reducible apply sv_asgLp)
local macro_rules | `(tactic| trivial) => `(tactic| ((with_reducible apply tg_lst); · exact rfl))
abbrev s__law_refused_right : Stmt := topS 56
theorem sc__law_refused_right : FnScope ["box", "bad", "wrong", "way", "some", "found"] ["box"] (defScope s__law_refused_right) := ⟨rfl, rfl, rfl, by decide +kernel, rfl, by decide +kernel, by decide +kernel⟩
def grown : Dt := .str (Str.ofString "grown")
/-- what is refused, and shown by repr -/
def sOkD (d : Dt) : Prop := (d.lay 4 = true ∧ shows d.py) ∨ d = .dk []
def badD (d : Dt) : Prop := isAnsW d = false ∧ small3 d ∧ sOkD d
structure RSt (b : Bs) (a pb : Addr) (n : Nat) (x3 x4 x5 : Arg) (G H : Hp) (σ : L2.St) (vals : List V) (vw : V) (cs : List Cell) (cw : Cell) : Prop where
  S : Sl b G H σ [.box a n, .v (.ref pb), .v vw, x3, x4, x5]
  gb : G pb = some (.lst vals)
  hh : CellsAt b G H vals cs
  hw : CellAt b G H vw cw
  nd : (a :: (cw.ad ++ ads cs)).Nodup
theorem own_any {Γ : Env} {i : Nat} {v : V} (h : BoxOnly Γ) : BoxOnly (Γ.set i (.v v)) := fun j β e1 e2 => by
  by_cases hj : i = j
  · subst hj
    rw [List.getElem?_set] at e1
    simp only [if_true] at e1
    split at e1
    · cases e1
      cases e2
    · cases e1
  · rw [List.getElem?_set_ne hj] at e1
    exact h j β e1 e2
theorem CellsAt.set {b : Bs} {G H : Hp} {v : V} {c : Cell} : ∀ {vs : List V} {cs : List Cell} {j : Nat}, CellsAt b G H vs cs → vs[j]? = some v → CellAt b G H v c → CellsAt b G H vs (cs.set j c)
  | [], [], _, h, _, _ => h
  | _ :: _, [], _, h, _, _ => h.elim
  | [], _ :: _, _, h, _, _ => h.elim
  | u :: vs, d :: cs, 0, ⟨_, h2⟩, e, q => by
    rw [List.getElem?_cons_zero] at e
    cases e
    exact ⟨q, h2⟩
  | u :: vs, d :: cs, j + 1, ⟨h1, h2⟩, e, q => by
    rw [List.getElem?_cons_succ] at e
    exact ⟨h1, h2.set e q⟩
/-- all cells but the one at j -/
theorem CellsAt.others {b : Bs} {G H G' H' : Hp} (s : Same G G') {v' : V} {c' : Cell} : ∀ {vs : List V} {cs : List Cell} {j : Nat}, CellsAt b G H vs cs → (∀ i c, i ≠ j → cs[i]? = some c → ∀ p ∈ c.ad, ∀ o, G p = none → H p = some o → G' p = none ∧ H' p = some o) → vs[j]? = some v' → CellAt b G' H' v' c' → CellsAt b G' H' vs (cs.set j c')
  | [], [], _, h, _, _, _ => h
  | _ :: _, [], _, h, _, _, _ => h.elim
  | [], _ :: _, _, h, _, _, _ => h.elim
  | u :: vs, d :: cs, 0, ⟨_, h2⟩, k, e, q => by
    rw [List.getElem?_cons_zero] at e
    cases e
    refine ⟨q, h2.move s fun p hp => ?_⟩
    obtain ⟨c, hc, z⟩ := List.mem_flatMap.mp hp
    obtain ⟨i, hi⟩ := List.mem_iff_getElem?.mp hc
    exact k (i + 1) c (Nat.succ_ne_zero _) (by rw [List.getElem?_cons_succ]; exact hi) p z
  | u :: vs, d :: cs, j + 1, ⟨h1, h2⟩, k, e, q => by
    rw [List.getElem?_cons_succ] at e
    exact ⟨h1.move s fun p hp => k 0 d (Nat.succ_ne_zero _).symm rfl p hp, h2.others s (fun i c hi hc => k (i + 1) c (fun z => hi (Nat.succ.inj z)) (by rw [List.getElem?_cons_succ]; exact hc)) e q⟩
theorem grow_ad (y : Dt) (c : Cell) : (c.grow y).ad = c.ad := by cases c <;> rfl
theorem ads_set {y : Dt} : ∀ {cs : List Cell} {j : Nat} {c : Cell}, cs[j]? = some c → ads (cs.set j (c.grow y)) = ads cs
  | [], _, _, _ => rfl
  | d :: cs, 0, c, e => by
    rw [List.getElem?_cons_zero] at e
    cases e
    show (d.grow y).ad ++ ads cs = d.ad ++ ads cs
    rw [grow_ad]
  | d :: cs, j + 1, c, e => by
    rw [List.getElem?_cons_succ] at e
    show d.ad ++ ads (cs.set j (c.grow y)) = d.ad ++ ads cs
    rw [ads_set e]
/-- the addresses of two cells -/
theorem ads_apart : ∀ {cs : List Cell} {i j : Nat} {c d : Cell}, (ads cs).Nodup → cs[i]? = some c → cs[j]? = some d → i ≠ j → ∀ p ∈ c.ad, p ∉ d.ad
  | [], _, _, _, _, _, h, _, _, _, _ => by simp at h
  | e :: cs, 0, 0, _, _, _, _, _, n, _, _ => absurd rfl n
  | e :: cs, 0, j + 1, c, d, nd, h1, h2, _, p, hp => by
    rw [List.getElem?_cons_zero] at h1
    cases h1
    rw [List.getElem?_cons_succ] at h2
    rw [ads, List.flatMap_cons, List.nodup_append] at nd
    exact fun z => nd.2.2 p hp p (List.mem_flatMap.mpr ⟨d, List.mem_of_getElem? h2, z⟩) rfl
  | e :: cs, i + 1, 0, c, d, nd, h1, h2, _, p, hp => by
    rw [List.getElem?_cons_zero] at h2
    cases h2
    rw [List.getElem?_cons_succ] at h1
    rw [ads, List.flatMap_cons, List.nodup_append] at nd
    exact fun z => nd.2.2 p z p (List.mem_flatMap.mpr ⟨c, List.mem_of_getElem? h1, hp⟩) rfl
  | e :: cs, i + 1, j + 1, c, d, nd, h1, h2, n, p, hp => by
    rw [List.getElem?_cons_succ] at h1 h2
    rw [ads, List.flatMap_cons, List.nodup_append] at nd
    exact ads_apart nd.2.1 h1 h2 (fun z => n (by rw [z])) p hp
theorem opd_neX {K : PySem.W.Frag} {d : Dt} (h : sOkD d) : OpD K (rNeX K) d d (.bl false) := fun G H x y s hx hy Q k => by
  rcases h with ⟨h, _⟩ | h
  · refine .inl (opd_neL 4 h h (by decide) G H x y s hx hy Q ?_)
    rw [eqv_same h]
    exact k
  · subst h
    obtain ⟨p, xs, e1, h1, h2⟩ := hx
    obtain ⟨q, ys, e2, h3, h4⟩ := hy
    cases (show xs = [] from h2)
    cases (show ys = [] from h4)
    exact .inr ⟨p, q, [], [], e1, e2, s _ _ h1, s _ _ h3, rfl, (fun z hz => nomatch hz), k _ G H (Ext.rfl' s) rfl⟩
theorem opd_eqX {K : PySem.W.Frag} {d : Dt} (h : sOkD d) : OpD K (rEqX K) d d (.bl true) := fun G H x y s hx hy Q k => by
  rcases h with ⟨h, _⟩ | h
  · refine .inl (opd_eqL 4 h h (by decide) G H x y s hx hy Q ?_)
    rw [eqv_same h]
    exact k
  · subst h
    obtain ⟨p, xs, e1, h1, h2⟩ := hx
    obtain ⟨q, ys, e2, h3, h4⟩ := hy
    cases (show xs = [] from h2)
    cases (show ys = [] from h4)
    exact .inr ⟨p, q, [], [], e1, e2, s _ _ h1, s _ _ h3, rfl, (fun z hz => nomatch hz), k _ G H (Ext.rfl' s) rfl⟩
theorem cbd_repr {K : PySem.W.Frag} {d : Dt} (h : sOkD d) : CbD K (rReprD K) [d] (.str d.py.shown) := fun G H xs s D Q k => by
  obtain ⟨x, r, rfl, hx, hr⟩ := D
  cases (show r = [] from hr)
  rcases h with ⟨h, hs⟩ | h
  · exact ⟨x, rfl, .inl ⟨d.py, Da.dp s d (lay_ok 4 d h).1 hx, hs, k _ G H (Ext.rfl' s) rfl⟩⟩
  · subst h
    obtain ⟨p, xs, e1, h1, h2⟩ := hx
    cases (show xs = [] from h2)
    exact ⟨x, rfl, .inr ⟨p, e1, s _ _ h1, k _ G H (Ext.rfl' s) rfl⟩⟩
def tTurn (K : PySem.W.Frag) : TS :=
  tSeq (tAsg (tOp (rIx K) (tVar 1) (tCall (p_take K) [] E0 (tCons (tVar 0) (tCons (tCB (fun xs H Q => ∃ x n, xs = [x] ∧ LenV K x H n ∧ Q (V.int ↑n) H) (tCons (tVar 1) tNil)) tNil)))) (gName 4))
    (tSeq (tAsg (tCall (p_asked K) [] E0 (tCons (tVar 3) (tCons (tVar 4) (tCons (tVar 2) tNil)))) (gName 5))
      (tSeq (tIfS (tB (tCB (rIsi K) (tCons (tVar 4) (tCons (tC (V.ty "list")) tNil)))) (tDrop (tBM K "list" rAppend (tVar 4) (tCons (tC (V.str (Str.ofString "grown"))) tNil))) tNext)
        (tIfS (tOr (tTest (tOp rNe (tOp (rIx K) (tVar 5) (tC (V.int 0))) (tC (V.str (Str.ofString "answers")))))
              (tOr (tTest (tOp (rNeX K) (tOp (rIx K) (tVar 5) (tC (V.int 1))) (tVar 4)))
                (tTest (tOp rNe (tCB (rReprD K) (tCons (tOp (rIx K) (tVar 5) (tC (V.int 1))) tNil)) (tCB (rReprD K) (tCons (tVar 4) tNil))))))
          (tRet (tC (V.bl false))) tNext)))
theorem turn_run {r : Rs} {K : PySem.W.Frag} {gy : Hp} {hy : Gh} (w0 : Wy (r.at K noW noX) gy hy) {a pb : Addr} {n : Nat} {G H : Hp} {σ : L2.St} {vals : List V} {vw : V} {cs : List Cell} {cw : Cell} {way : Int} {x4 x5 : Arg} {D : Ends}
    (R : RSt (Cs.b (r.at K noW noX) gy hy) a pb (n + 1) (.d (.int way)) x4 x5 G H σ vals vw cs cw) (h4 : x4.own = false) (h5 : x5.own = false) (hw3 : way = 0 ∨ way = 1 ∨ way = 2) (h20 : 0 < cs.length ∧ cs.length ≤ 1000) (hbad : ∀ c ∈ cs, badD c.dt ∧ badD (c.grow grown).dt ∧ (∀ d, c = .fix d → d.isLst = false)) (hcw : small1 cw.dt)
    (next : ∀ σ' H' j c x4' x5', cs[j]? = some c → x4'.own = false → x5'.own = false → RSt (Cs.b (r.at K noW noX) gy hy) a pb n (.d (.int way)) x4' x5' G H' σ' vals vw (cs.set j (c.grow grown)) cw → D.nx σ' H') : tTurn K D σ H := by
  obtain ⟨S, gb, hh, hw, nd⟩ := R
  have lenV := hh.len
  have nd' := List.nodup_cons.mp nd
  have naw : a ∉ cw.ad := fun z => nd'.1 (List.mem_append_left _ z)
  have nac : a ∉ ads cs := fun z => nd'.1 (List.mem_append_right _ z)
  obtain ⟨e0, g0, x0, bx⟩ := S.sl 0 (.box a (n + 1)) rfl
  have e1 : σ[1]? = some (some (.ref pb)) := S.sl 1 _ rfl
  have pbH := S.gh _ _ gb
  have pba : pb ≠ a := fun z => by rw [z, g0] at gb; cases gb
  refine seq_run ⟨.ref pb, e1, .ref a, e0, .ref pb, e1, .ref pb, vals.length, rfl, .inl ⟨vals, .inl (.inl pbH), rfl⟩, a, [.int (vals.length : Int)], G, [.int (vals.length : Int)], n, fun d => ∃ t : Int, d = .int t ∧ 0 ≤ t ∧ t < (vals.length : Int), rfl, S.gh, g0, bx, ⟨_, _, rfl, rfl, rfl⟩, rfl, ⟨(vals.length : Int), rfl, by omega, by omega, fun t t0 t1 => ⟨t, rfl, t0, t1⟩⟩, ?_⟩
  rintro _ ⟨t, rfl, t0, t1⟩ v G' H1 e hb1 Dv
  cases (show v = V.int t from Dv)
  obtain ⟨j, rfl⟩ : ∃ j : Nat, t = (j : Int) := ⟨t.toNat, by omega⟩
  have hj : j < cs.length := by omega
  obtain ⟨u, hu, hc⟩ := hh.get (List.getElem?_eq_getElem hj)
  have hcm : cs[j] ∈ cs := List.getElem_mem hj
  have hcj : cs[j]? = some cs[j] := List.getElem?_eq_getElem hj
  generalize cs[j] = c at hc hcm hcj
  obtain ⟨bd1, bd2, bd3⟩ := hbad c hcm
  have pb1 : H1 pb = some (.lst vals) := e.h _ _ pba pbH
  refine .inl ⟨pb, vals, (j : Int), u, rfl, rfl, .inl (.inl pb1), by rw [atI_ok (by omega)]; exact hu, ?_⟩
  have eB : ExtB a G H G H1 := ⟨Same.refl _, e.h, e.g.trans e.s, fun _ _ z => .inl z⟩
  have S1 := ((S.extB (i := 0) rfl eB hb1).any 5).setV (i := 4) (v := u)
  have cad : ∀ p ∈ c.ad, p ∈ ads cs := fun p hp => List.mem_flatMap.mpr ⟨c, hcm, hp⟩
  have ca : a ∉ c.ad := fun z => nac (cad a z)
  have mv1 : ∀ p, p ≠ a → ∀ o, G p = none → H p = some o → G p = none ∧ H1 p = some o := fun p hp o z1 z2 => ⟨z1, e.h _ _ hp z2⟩
  have hh1 : CellsAt (Cs.b (r.at K noW noX) gy hy) G H1 vals cs := hh.move (Same.refl _) fun p hp => mv1 p fun z => nac (z ▸ hp)
  have hw1 : CellAt (Cs.b (r.at K noW noX) gy hy) G H1 vw cw := hw.move (Same.refl _) fun p hp => mv1 p fun z => naw (z ▸ hp)
  have hc1 : CellAt (Cs.b (r.at K noW noX) gy hy) G H1 u c := hc.move (Same.refl _) fun p hp => mv1 p fun z => ca (z ▸ hp)
  have bo := bo6 (a := a) (n := n) (x1 := .v (.ref pb)) (x2 := .v vw) (x3 := .d (.int way)) (x4 := .v u) (x5 := .any) rfl rfl rfl rfl rfl
  have ndc := List.nodup_append.mp nd'.2
  have aw : ∀ p ∈ cw.ad, p ∉ c.ad := fun p hp z => ndc.2.2 p hp p (cad p z) rfl
  obtain ⟨G1, s1, T1, D1, f1⟩ := hc1.know S1 bo rfl ca
  have hw2 : CellAt (Cs.b (r.at K noW noX) gy hy) G1 H1 vw cw := hw1.move s1 fun p hp o z1 z2 => ⟨by rw [f1 p (aw p hp)]; exact z1, z2⟩
  obtain ⟨G2, s2, T2, D2, f2⟩ := hw2.know T1 bo rfl naw
  obtain ⟨w3, q3, hw3v⟩ := S1.var (i := 3) (d := .int way) rfl
  cases (show w3 = V.int way from hw3v)
  have q4 : (σ.set 4 (some u))[4]? = some (some u) := S1.sl 4 _ rfl
  have q2 : (σ.set 4 (some u))[2]? = some (some vw) := S1.sl 2 _ rfl
  have hg : goodA c.dt = false := by unfold goodA; rw [bd1.1, Bool.false_and]
  refine seq_run ⟨.int way, q3, u, q4, vw, q2, G2, way, c.dt, cw.dt, u, vw, fun _ => False, fun _ => False, fun x v => x = sAns ∧ v = u, rfl, T2.gh, Da.up s2 _ D1, D2, ⟨bd1.2.1, ?_⟩, fun _ z => z.elim, fun _ z => z.elim, ?_⟩
  · rcases hw3 with e | e | e
    · exact .inl ⟨e, (fun z => by rw [bd1.1] at z; cases z), fun _ => ⟨rfl, rfl⟩⟩
    · exact .inr (.inl ⟨e, (fun z => by rw [hg] at z; cases z), fun _ => ⟨rfl, rfl⟩⟩)
    · exact .inr (.inr ⟨e, hcw, (fun z => by rw [hg] at z; cases z), (fun z => by rw [hg] at z; cases z), fun _ => ⟨rfl, rfl⟩⟩)
  rintro _ v0 ⟨rfl, ev0⟩ p5 G'' H2 e2 np5 gp5 hp5
  rw [ev0] at hp5
  have S2 := (S1.ext (G' := G) (H' := H2) ⟨Same.refl G, e2.h, S1.gh.trans e2.h, fun _ _ z => .inl z⟩).setV (i := 5) (v := .ref p5)
  have mv2 : ∀ p o, G p = none → H1 p = some o → G p = none ∧ H2 p = some o := fun p o z1 z2 => ⟨z1, e2.h _ _ z2⟩
  have hh2 : CellsAt (Cs.b (r.at K noW noX) gy hy) G H2 vals cs := hh1.move (Same.refl _) fun p _ => mv2 p
  have hwv2 : CellAt (Cs.b (r.at K noW noX) gy hy) G H2 vw cw := hw1.move (Same.refl _) fun p _ => mv2 p
  have hc2 : CellAt (Cs.b (r.at K noW noX) gy hy) G H2 u c := hc1.move (Same.refl _) fun p _ => mv2 p
  have r4 : ((σ.set 4 (some u)).set 5 (some (.ref p5)))[4]? = some (some u) := S2.sl 4 _ rfl
  have p5c : p5 ∉ c.ad := fun z => by
    obtain ⟨_, _, _, xs, e⟩ := hh1.held p5 (cad p5 z)
    rw [np5] at e
    cases e
  have p5w : p5 ∉ cw.ad := fun z => by
    cases cw with
    | fix d => cases z
    | lis p ds =>
      cases List.mem_singleton.mp z
      obtain ⟨_, _, _, _, xs, e, _⟩ := hw1
      rw [np5] at e
      cases e
  have bo2 := bo6 (a := a) (n := n) (x1 := .v (.ref pb)) (x2 := .v vw) (x3 := .d (.int way)) (x4 := .v u) (x5 := .v (.ref p5)) rfl rfl rfl rfl rfl
  have key : ∀ H3, (∀ q o, H2 q = some o → q ∉ c.ad → H3 q = some o) → (∀ q, H2 q ≠ none → H3 q ≠ none) → CellAt (Cs.b (r.at K noW noX) gy hy) G H3 u (c.grow grown) → (tIfS (tOr (tTest (tOp rNe (tOp (rIx K) (tVar 5) (tC (V.int 0))) (tC (V.str (Str.ofString "answers")))))
              (tOr (tTest (tOp (rNeX K) (tOp (rIx K) (tVar 5) (tC (V.int 1))) (tVar 4)))
                (tTest (tOp rNe (tCB (rReprD K) (tCons (tOp (rIx K) (tVar 5) (tC (V.int 1))) tNil)) (tCB (rReprD K) (tCons (tVar 4) tNil))))))
          (tRet (tC (V.bl false))) tNext) D ((σ.set 4 (some u)).set 5 (some (.ref p5))) H3 := by
    intro H3 k3 l3 c3
    have heldc : ∀ q ∈ c.ad, G q = none ∧ (Cs.b (r.at K noW noX) gy hy).Hx.h q = none := fun q z => by
      obtain ⟨z1, _, z2, _⟩ := hh1.held q (cad q z)
      exact ⟨z1, z2⟩
    have bx2 : BoxSt n H2 a := (S2.sl 0 (.box a n) rfl).2.2.2
    have bx3 : BoxSt n H3 a := by
      obtain ⟨g, bb, mm, cc, z1, z2⟩ := bx2
      exact ⟨g, bb, mm, cc, k3 a _ z1 ca, z2⟩
    have S3 := S2.reheap (a := a) (n := n) (m := n) bo2 rfl (fun q o z1 _ z3 => k3 q o z1 fun z => z3.elim (fun e => e (heldc q z).1) fun e => e (heldc q z).2) l3 bx3
    have ca' : a ∉ (c.grow grown).ad := by rw [grow_ad]; exact ca
    obtain ⟨Gk, sk, Tk, Dk, fk⟩ := c3.know S3 bo2 rfl ca'
    have gk5 : Gk p5 = none := by
      rw [fk p5 (by rw [grow_ad]; exact p5c)]
      exact S1.gh.free np5
    have hp53 : H3 p5 = some (.lst [.str sAns, u]) := k3 p5 _ hp5 p5c
    have p5a : p5 ≠ a := fun z => by
      obtain ⟨g, bb, mm, cc, z1, _⟩ := hb1
      rw [z, z1] at np5
      cases np5
    have T5 := Tk.know (a := a) (n := n) bo2 rfl gk5 (h0_fresh S1 np5) (hx_fresh S1 np5) hp53 p5a
    have Dk5 := Da.up (same_new (o := .lst [.str sAns, u]) gk5) _ Dk
    have D5 : Da K (upd Gk p5 (.lst [.str sAns, u])) (.ref p5) (.lst [.str sAns, (c.grow grown).dt]) := ⟨p5, _, rfl, upd_same, _, _, rfl, rfl, u, [], rfl, Dk5, rfl⟩
    have T6 := (T5.vd (i := 4) rfl Dk5).vd (i := 5) rfl D5
    have bo3 := bo6 (a := a) (n := n) (x1 := .v (.ref pb)) (x2 := .v vw) (x3 := .d (.int way)) (x4 := .d (c.grow grown).dt) (x5 := .d (.lst [.str sAns, (c.grow grown).dt])) rfl rfl rfl rfl rfl
    obtain ⟨hy', w', T7, kp⟩ := all_base (a := a) (n := n) w0 T6 bo3 rfl
    have okd := bd2.2.2
    have q : EvT (r.at K noW noX) (tOr (tTest (tOp rNe (tOp (rIx K) (tVar 5) (tC (V.int 0))) (tC (V.str (Str.ofString "answers")))))
              (tOr (tTest (tOp (rNeX K) (tOp (rIx K) (tVar 5) (tC (V.int 1))) (tVar 4)))
                (tTest (tOp rNe (tCB (rReprD K) (tCons (tOp (rIx K) (tVar 5) (tC (V.int 1))) tNil)) (tCB (rReprD K) (tCons (tVar 4) tNil))))))
        [.box a n, .v (.ref pb), .v vw, .d (.int way), .d (c.grow grown).dt, .d (.lst [.str sAns, (c.grow grown).dt])] (fun c' Γ' => c' = false ∧ Γ' = [.box a n, .v (.ref pb), .v vw, .d (.int way), .d (c.grow grown).dt, .d (.lst [.str sAns, (c.grow grown).dt])]) := by
      refine et_or (et_test (ev_op (ev_op (ev_var rfl (ev_i ⟨_, opd_ix (n := 0) (.lst _) rfl, ev_s ⟨_, opd_neS, _, rfl, ite_f (by rw [decide_eq_true (show sAns = Str.ofString "answers" from rfl)]; rfl) ?_⟩⟩)))))
      refine et_or (et_test (ev_op (ev_op (ev_var rfl (ev_i ⟨_, opd_ix (n := 1) (.lst _) rfl, ev_var rfl ⟨_, opd_neX okd, _, rfl, ite_f rfl ?_⟩⟩)))))
      refine et_test (ev_op (ev_cb (ea_cons (ev_op (ev_var rfl (ev_i ⟨_, opd_ix (n := 1) (.lst _) rfl, ea_nil ⟨_, cbd_repr okd, ?_⟩⟩))))))
      refine ev_cb (ea_cons (ev_var rfl (ea_nil ⟨_, cbd_repr okd, _, opd_neS, _, rfl, ?_, rfl⟩)))
      rw [decide_eq_true rfl]
      rfl
    refine ifs_run (q _ hy' w' _ H3 _ T7 _ fun c' Γ8 G8 H4 ⟨ec, eΓ⟩ s8 S8 => ?_)
    subst ec eΓ
    refine ite_f rfl (next_run ?_)
    have bx4 : BoxSt n H4 a := (S8.sl 0 (.box a n) rfl).2.2.2
    have k4 : ∀ p o, H3 p = some o → p ≠ a → H4 p = some o := fun p o z1 z2 => S8.hx p o (kp p o z1 z2)
    have l4 : ∀ p, H3 p ≠ none → H4 p ≠ none := fun p z => by
      by_cases hp : p = a
      · obtain ⟨g, bb, mm, cc, z1, _⟩ := bx4
        rw [hp, z1]
        exact fun z => nomatch z
      · obtain ⟨o, ho⟩ := Option.ne_none_iff_exists'.mp z
        rw [k4 p o ho hp]
        exact fun z => nomatch z
    have S9 := S3.reheap (a := a) (n := n) (m := n) bo2 rfl (fun q o z1 z2 _ => k4 q o z1 z2) l4 bx4
    have c4 : CellAt (Cs.b (r.at K noW noX) gy hy) G H4 u (c.grow grown) := c3.move (Same.refl _) fun p hp o z1 z2 => ⟨z1, k4 p o z2 fun z => ca' (z ▸ hp)⟩
    refine next _ H4 j c (.v u) (.v (.ref p5)) hcj rfl rfl ⟨S9, gb, hh2.others (Same.refl _) (fun i d hi hd p hp o z1 z2 => ⟨z1, k4 p o (k3 p o z2 (ads_apart ndc.2.1 hd hcj hi p hp)) fun z => nac (z ▸ List.mem_flatMap.mpr ⟨d, List.mem_of_getElem? hd, hp⟩)⟩) hu c4,
      hwv2.move (Same.refl _) fun p hp o z1 z2 => ⟨z1, k4 p o (k3 p o z2 (aw p hp)) fun z => naw (z ▸ hp)⟩, by rw [ads_set hcj]; exact nd⟩
  refine seq_run (ifs_run (isi_run (G := G1) (T1.gh.trans e2.h) r4 D1 ?_))
  cases c with
  | fix d => exact ite_f (bd3 d rfl) (next_run (key H2 (fun _ _ z _ => z) (fun _ z => z) hc2))
  | lis p ds =>
    obtain ⟨rfl, c1, c2, c3, xs, c4, c5⟩ := hc2
    have hx : xs.length ≤ 1000 := by
      rw [DaL.len c5]
      exact bd1.2.1.1
    refine ite_t rfl ⟨.ref p, r4, .inl ⟨rfl, xs, .inl (.inl c4)⟩, p, xs, _, rfl, rfl, c4, Nat.lt_of_le_of_lt hx (by decide), ?_⟩
    refine key _ (fun q o z1 z2 => ?_) (fun q z => ?_) ⟨rfl, c1, c2, c3, _, upd_same, DaL.snoc c5 rfl⟩
    · rw [upd_ne fun z => z2 (by rw [z]; exact List.mem_singleton.mpr rfl)]
      exact z1
    · by_cases hq : q = p
      · rw [hq, upd_same]
        exact fun z => nomatch z
      · rw [upd_ne hq]
        exact z
/-- the wrong answers, the wrong lots; true: a list that may grow -/
def L1 (xs : List Int) : Dt := .lst (xs.map .int)
def A3 (x y z : Dt) : Dt := .tup [x, y, z]
def bads1 : List (Bool × Dt) := [(true, .lst [A3 (L1 [0]) (.int 2) (.int 1)]), (true, .lst [A3 (L1 []) (.int 0) (.int 1)]), (true, .lst [A3 (L1 [0, 1, 2]) (.int 0) (.int 0)]), (true, .lst [A3 (L1 [1, 0]) (.int 0) (.int 1)]),
  (true, .lst [A3 (L1 [0]) (.int 0) (.int 1), A3 (.tup [.int 0]) (.int 0) (.int 1)]), (true, .lst [A3 (L1 [3]) (.int 0) (.int 1)]), (true, .lst [A3 (L1 [0]) (.int (-1)) (.int 1)]), (true, .lst [A3 (L1 [0]) (.bl true) (.int 1)])]
def bads2 : List (Bool × Dt) := [(true, .lst [.tup [L1 [0], .int 0]]), (true, .lst [.lst [L1 [0], .int 0, .int 1]]), (true, .lst [A3 (L1 [0]) (.int 0) (.str (Str.ofString "1"))]), (false, .non), (false, .str (Str.ofString "answers")), (false, .dk []), (false, .int 7),
  (true, .lst [.non]), (true, .lst [A3 (L1 [0]) .non (.int 1)]), (true, .lst [A3 (L1 [0, 0]) (.int 0) (.int 1)]), (true, .lst [A3 (.int 0) (.int 0) (.int 1)]), (true, .lst [A3 (L1 [0]) (.int 0) (.bl false)])]
def wrongs : List (Bool × Dt) := [(true, L1 []), (true, L1 [0, 1, 2]), (true, L1 [1, 0]), (true, L1 [3]), (false, .non), (false, .str (Str.ofString "0")), (false, .int 0), (true, .lst [.bl true]), (true, L1 [0, 0]), (false, .dk [])]
def growS (k : Nat) : Bool × Dt → Bool × Dt
  | (true, .lst ds) => (true, .lst (ds ++ List.replicate k grown))
  | q => q
instance (d : Dt) : Decidable (small1 d) := by unfold small1; infer_instance
instance (d : Dt) : Decidable (small3 d) := by unfold small3 small2 small1; infer_instance
instance (d : PyData) : Decidable (shows d) := by unfold shows; infer_instance
def isDk0 : Dt → Bool
  | .dk [] => true
  | _ => false
def chkS (d : Dt) : Bool := isDk0 d || (d.lay 4 && decide (shows d.py))
def chkB (d : Dt) : Bool := !isAnsW d && (decide (small3 d) && chkS d)
theorem chkS_ok {d : Dt} (h : chkS d = true) : sOkD d := by
  unfold chkS at h
  rw [Bool.or_eq_true, Bool.and_eq_true] at h
  rcases h with h | ⟨h1, h2⟩
  · right
    match d, h with
    | .dk [], _ => rfl
  · exact .inl ⟨h1, of_decide_eq_true h2⟩
theorem chkB_ok {d : Dt} (h : chkB d = true) : badD d := by
  unfold chkB at h
  rw [Bool.and_eq_true, Bool.and_eq_true] at h
  exact ⟨by simpa using h.1, of_decide_eq_true h.2.1, chkS_ok h.2.2⟩
theorem sh_dt (c : Cell) : c.dt = c.sh.2 := by cases c <;> rfl
theorem sh_grow {c : Cell} {k : Nat} {q : Bool × Dt} (h : c.sh = growS k q) : (c.grow grown).sh = growS (k + 1) q := by
  cases c with
  | fix d =>
    match q, h with
    | (false, e), h => exact h
    | (true, .lst ds), h => cases h
    | (true, .non), h => cases h
    | (true, .bl _), h => cases h
    | (true, .int _), h => cases h
    | (true, .str _), h => cases h
    | (true, .tup _), h => cases h
    | (true, .sq _), h => cases h
    | (true, .sqt _), h => cases h
    | (true, .dk _), h => cases h
    | (true, .dt _), h => cases h
  | lis p ds =>
    match q, h with
    | (false, e), h => cases h
    | (true, .lst es), h =>
      have h' : ds = es ++ List.replicate k grown := by
        have z := congrArg Prod.snd h
        exact Dt.lst.inj z
      show (true, Dt.lst (ds ++ [grown])) = (true, Dt.lst (es ++ List.replicate (k + 1) grown))
      rw [h', List.append_assoc, List.replicate_succ']
    | (true, .non), h => cases h
    | (true, .bl _), h => cases h
    | (true, .int _), h => cases h
    | (true, .str _), h => cases h
    | (true, .tup _), h => cases h
    | (true, .sq _), h => cases h
    | (true, .sqt _), h => cases h
    | (true, .dk _), h => cases h
    | (true, .dt _), h => cases h
theorem grow0 (q : Bool × Dt) : growS 0 q = q := by
  match q with
  | (true, .lst ds) => show (true, Dt.lst (ds ++ [])) = _; rw [List.append_nil]
  | (false, _) => rfl
  | (true, .non) => rfl
  | (true, .bl _) => rfl
  | (true, .int _) => rfl
  | (true, .str _) => rfl
  | (true, .tup _) => rfl
  | (true, .sq _) => rfl
  | (true, .sqt _) => rfl
  | (true, .dk _) => rfl
  | (true, .dt _) => rfl
def LSh (i : Nat) (cs : List Cell) : Prop := cs.length = 20 ∧ ∀ (j : Nat) (c : Cell), cs[j]? = some c → ∃ k base, k ≤ i ∧ (bads1 ++ bads2)[j]? = some base ∧ c.sh = growS k base
theorem growS_fst (k : Nat) (q : Bool × Dt) : (growS k q).1 = q.1 := by
  match q with
  | (true, .lst ds) => rfl
  | (false, _) => rfl
  | (true, .non) => rfl
  | (true, .bl _) => rfl
  | (true, .int _) => rfl
  | (true, .str _) => rfl
  | (true, .tup _) => rfl
  | (true, .sq _) => rfl
  | (true, .sqt _) => rfl
  | (true, .dk _) => rfl
  | (true, .dt _) => rfl
theorem growS_fix (k : Nat) (d : Dt) : growS k (false, d) = (false, d) := rfl
theorem bads_chk : (bads1 ++ bads2).all (fun b => [0, 1, 2, 3].all fun k => chkB (growS k b).2) = true := by decide +kernel
theorem bads_fix : (bads1 ++ bads2).all (fun b => b.1 || !b.2.isLst) = true := by decide +kernel
theorem wrongs_chk : wrongs.all (fun b => decide (small1 b.2) && (!isAsk b.2 && [0, 1].all fun k => chkS (growS k b).2)) = true := by decide +kernel
theorem wrongs_fix : wrongs.all (fun b => b.1 || !b.2.isLst) = true := by decide +kernel
theorem lsh_bad {i : Nat} {cs : List Cell} (h : LSh i cs) (hi : i < 3) : ∀ c ∈ cs, badD c.dt ∧ badD (c.grow grown).dt ∧ (∀ d, c = .fix d → d.isLst = false) := fun c hc => by
  obtain ⟨j, hj⟩ := List.mem_iff_getElem?.mp hc
  obtain ⟨k, base, hk, hb, e⟩ := h.2 j c hj
  have z := List.all_eq_true.mp (List.all_eq_true.mp bads_chk base (List.mem_of_getElem? hb))
  have zf := List.all_eq_true.mp bads_fix base (List.mem_of_getElem? hb)
  have mem : ∀ n : Nat, n ≤ 3 → n ∈ [0, 1, 2, 3] := fun n hn => by
    have c : n = 0 ∨ n = 1 ∨ n = 2 ∨ n = 3 := by omega
    rcases c with rfl | rfl | rfl | rfl <;> simp
  refine ⟨?_, ?_, fun d hd => ?_⟩
  · rw [sh_dt, e]
    exact chkB_ok (z k (mem k (by omega)))
  · rw [sh_dt, sh_grow e]
    exact chkB_ok (z (k + 1) (mem (k + 1) (by omega)))
  · subst hd
    have e1 : (false, d) = growS k base := e
    have e2 : base.1 = false := by
      have z := congrArg Prod.fst e1
      rw [growS_fst] at z
      exact z.symm
    rw [e2, Bool.false_or] at zf
    obtain ⟨b1, b2⟩ := base
    cases (show b1 = false from e2)
    rw [growS_fix] at e1
    cases e1
    simpa using zf
section
variable {P : Program} {w : World} {K : PySem.W.Frag} {mg : Str → Option Value} {base : Heap} {f : Addr} {fd : FuncData}
abbrev p_refused_right (K : PySem.W.Frag) : Sp := PuB K 0 (fun _ => 10) (r0 fun Ψ => Ψ (.bl true))
local macro_rules | `(tactic| trivial) => `(tactic| with_reducible refine EvN.ev (en_lst ?_))
local macro_rules | `(tactic| trivial) => `(tactic| with_reducible refine en_lst ?_)
local macro_rules | `(tactic| trivial) => `(tactic| with_reducible refine ev_dnew ?_)
local macro_rules | `(tactic| trivial) => `(tactic| with_reducible refine ev_un ?_)
local macro_rules | `(tactic| trivial) => `(tactic| with_reducible refine ⟨_, und_U, ?_⟩)
theorem d__law_refused_right (B : Bi mg) (D__law_take : DefOk P w K mg base CX0 1 "_law_take" ["box", "many"] (p_take K)) (D__law_asked : DefOk P w K mg base CX0 11 "_law_asked" ["way", "answers", "lot"] (p_asked K))
    (F : TopD K mg "_law_refused_right" s__law_refused_right ["box"] f fd) : DefG P w K mg base CX0 12 "_law_refused_right" ["box"] (p_refused_right K) := by
  refine F.okG (funG F.fn sc__law_refused_right (fun _ _ _ _ => PuB.len) (fun cdv A outer s H vs Q E hG hr h => ⟨_, (pss_cons (ps_set (i := 1) sc__law_refused_right.nd rfl (.inl rfl) (pe_lst (pa_cons (pe_lst (pa_cons (pe_tup (pa_cons (pe_lst (pa_cons pe_int pa_nil)) (pa_cons pe_int (pa_cons pe_int pa_nil)))) pa_nil)) (pa_cons (pe_lst (pa_cons (pe_tup (pa_cons (pe_lst pa_nil) (pa_cons pe_int (pa_cons pe_int pa_nil)))) pa_nil)) (pa_cons (pe_lst (pa_cons (pe_tup (pa_cons (pe_lst (pa_cons pe_int (pa_cons pe_int (pa_cons pe_int pa_nil)))) (pa_cons pe_int (pa_cons pe_int pa_nil)))) pa_nil)) (pa_cons (pe_lst (pa_cons (pe_tup (pa_cons (pe_lst (pa_cons pe_int (pa_cons pe_int pa_nil))) (pa_cons pe_int (pa_cons pe_int pa_nil)))) pa_nil)) (pa_cons (pe_lst (pa_cons (pe_tup (pa_cons (pe_lst (pa_cons pe_int pa_nil)) (pa_cons pe_int (pa_cons pe_int pa_nil)))) (pa_cons (pe_tup (pa_cons (pe_tup (pa_cons pe_int pa_nil)) (pa_cons pe_int (pa_cons pe_int pa_nil)))) pa_nil))) (pa_cons (pe_lst (pa_cons (pe_tup (pa_cons (pe_lst (pa_cons pe_int pa_nil)) (pa_cons pe_int (pa_cons pe_int pa_nil)))) pa_nil)) (pa_cons (pe_lst (pa_cons (pe_tup (pa_cons (pe_lst (pa_cons pe_int pa_nil)) (pa_cons (pe_un un_neg pe_int) (pa_cons pe_int pa_nil)))) pa_nil)) (pa_cons (pe_lst (pa_cons (pe_tup (pa_cons (pe_lst (pa_cons pe_int pa_nil)) (pa_cons pe_bl (pa_cons pe_int pa_nil)))) pa_nil)) pa_nil))))))))))
      (pss_cons (ps_set (i := 1) sc__law_refused_right.nd rfl (.inl rfl) (pe_op op_cat (pv 1) (pe_lst (pa_cons (pe_lst (pa_cons (pe_tup (pa_cons (pe_lst (pa_cons pe_int pa_nil)) (pa_cons pe_int pa_nil))) pa_nil)) (pa_cons (pe_lst (pa_cons (pe_lst (pa_cons (pe_lst (pa_cons pe_int pa_nil)) (pa_cons pe_int (pa_cons pe_int pa_nil)))) pa_nil)) (pa_cons (pe_lst (pa_cons (pe_tup (pa_cons (pe_lst (pa_cons pe_int pa_nil)) (pa_cons pe_int (pa_cons pe_str pa_nil)))) pa_nil)) (pa_cons pe_non (pa_cons pe_str (pa_cons (pe_dnewK) (pa_cons pe_int (pa_cons (pe_lst (pa_cons pe_non pa_nil)) (pa_cons (pe_lst (pa_cons (pe_tup (pa_cons (pe_lst (pa_cons pe_int pa_nil)) (pa_cons pe_non (pa_cons pe_int pa_nil)))) pa_nil)) (pa_cons (pe_lst (pa_cons (pe_tup (pa_cons (pe_lst (pa_cons pe_int (pa_cons pe_int pa_nil))) (pa_cons pe_int (pa_cons pe_int pa_nil)))) pa_nil)) (pa_cons (pe_lst (pa_cons (pe_tup (pa_cons pe_int (pa_cons pe_int (pa_cons pe_int pa_nil)))) pa_nil)) (pa_cons (pe_lst (pa_cons (pe_tup (pa_cons (pe_lst (pa_cons pe_int pa_nil)) (pa_cons pe_int (pa_cons pe_bl pa_nil)))) pa_nil)) pa_nil)))))))))))))))
      (pss_cons (ps_set (i := 2) sc__law_refused_right.nd rfl (.inl rfl) (pe_ix (kIx (K := K) rfl) (pe_lst (pa_cons (pe_lst pa_nil) (pa_cons (pe_lst (pa_cons pe_int (pa_cons pe_int (pa_cons pe_int pa_nil)))) (pa_cons (pe_lst (pa_cons pe_int (pa_cons pe_int pa_nil))) (pa_cons (pe_lst (pa_cons pe_int pa_nil)) (pa_cons pe_non (pa_cons pe_str (pa_cons pe_int (pa_cons (pe_lst (pa_cons pe_bl pa_nil)) (pa_cons (pe_lst (pa_cons pe_int (pa_cons pe_int pa_nil))) (pa_cons (pe_dnewK) pa_nil))))))))))) (pe_d D__law_take hr pass0 (pa_cons (pv 0) (pa_cons pe_int pa_nil))) (fun _ _ => rfl)))
      (pss_cons (ps_for PassesOwn.never rfl (pi_range1 (by rfl) B.range (pa_cons pe_int pa_nil)) (pg_name (i := 3) sc__law_refused_right.nd rfl (.inl rfl)) (pss_cons (ps_set (i := 4) sc__law_refused_right.nd rfl (.inl rfl) (pe_ix (kIx (K := K) rfl) (pv 1) (pe_d D__law_take hr pass0 (pa_cons (pv 0) (pa_cons (pe_b (kLen (K := K) rfl) B.len (pa_cons (pv 1) pa_nil)) pa_nil))) (fun _ _ => rfl)))
      (pss_cons (ps_set (i := 5) sc__law_refused_right.nd rfl (.inl rfl) (pe_d D__law_asked hr pass0 (pa_cons (pv 3) (pa_cons (pv 4) (pa_cons (pv 2) pa_nil)))))
      (pss_cons (ps_if (pt_val (pe_b (kIsi (K := K) rfl) B.isinstance (pa_cons (pv 4) (pa_cons (pe_ty "list" B.list) pa_nil)))) (pss_one (ps_expr (pe_bm PySem.F.plainAttrs_list PySem.F.slot_list_append PySem.F.type_list_append mt_append (pv 4) (pa_cons pe_str pa_nil)))) pss_nil)
      (pss_one (ps_if (PW.pt (pw_or (pt_cmpR op_ne (pe_ix (kIx (K := K) rfl) (pv 5) pe_int (fun _ _ => rfl)) pe_str (nomark _)) (pw_or (pt_cmpR (kNeX (K := K) rfl hr) (pe_ix (kIx (K := K) rfl) (pv 5) pe_int (fun _ _ => rfl)) (pv 4) (nomark _)) (pw_or1 (pt_cmpR op_ne (pe_b (kReprD (K := K) rfl hr hG) B.repr (pa_cons (pe_ix (kIx (K := K) rfl) (pv 5) pe_int (fun _ _ => rfl)) pa_nil)) (pe_b (kReprD (K := K) rfl hr hG) B.repr (pa_cons (pv 4) pa_nil)) (nomark _)))))) (pss_one (ps_ret pe_bl)) pss_nil))))))
      (pss_cons (ps_set (i := 5) sc__law_refused_right.nd rfl (.inl rfl) (pe_d D__law_asked hr pass0 (pa_cons pe_int (pa_cons (pe_lst (pa_cons (pe_tup (pa_cons (pe_lst (pa_cons pe_int pa_nil)) (pa_cons pe_int (pa_cons pe_int pa_nil)))) pa_nil)) (pa_cons (pv 2) pa_nil)))))
      (pss_cons (ps_if (pt_val (pe_b (kIsi (K := K) rfl) B.isinstance (pa_cons (pv 2) (pa_cons (pe_ty "list" B.list) pa_nil)))) (pss_one (ps_expr (pe_bm PySem.F.plainAttrs_list PySem.F.slot_list_append PySem.F.type_list_append mt_append (pv 2) (pa_cons pe_str pa_nil)))) pss_nil)
      (pss_one (ps_ret (pe_and (pe_cmpR op_eq (pe_ix (kIx (K := K) rfl) (pv 5) pe_int (fun _ _ => rfl)) pe_str (nomark _)) (pe_and (pe_cmpR (kEqX (K := K) rfl hr) (pe_ix (kIx (K := K) rfl) (pv 5) pe_int (fun _ _ => rfl)) (pv 2) (nomark _)) (pe_one (pe_cmpR op_eq (pe_b (kReprD (K := K) rfl hr hG) B.repr (pa_cons (pe_ix (kIx (K := K) rfl) (pv 5) pe_int (fun _ _ => rfl)) pa_nil)) (pe_b (kReprD (K := K) rfl hr hG) B.repr (pa_cons (pv 2) pa_nil)) (nomark _))))))))))))),
    pb_start h (by decide) fun r a ds Ψ m hl hR => ?_⟩))
  try dsimp only [cxOf, Cx.nox]
  obtain rfl : ds = [] := List.length_eq_zero_iff.mp hl
  dsimp only [r0] at hR
  intro gy hy w0 G H0 σ D S k1 k2 _ _
  have hb : ∃ n, ([Arg.box a (m + 10), .any, .any, .any, .any, .any] : Env)[0]? = some (.box a n) := ⟨_, rfl⟩
  have bo := bo6 (a := a) (n := m + 10) (x1 := .any) (x2 := .any) (x3 := .any) (x4 := .any) (x5 := .any) rfl rfl rfl rfl rfl
  refine seq_run (asg_run ?_)
  refine lst_run (ArgC.run (B := r.at K noW noX) (a := a) (shs := bads1) ?q1 w0 S (hv := []) (hc := []) trivial (List.nodup_cons.mpr ⟨by simp, List.nodup_nil⟩) ?_)
  case q1 =>
    iterate 8 (refine argc_lis bo hb ?_ ?_; rotate_left)
    · exact argc_nil
    all_goals repeat trivial
  intro vs8 cs8 G1 H1 s1 S1 hh1 sh1 nd1 l1
  rw [List.nil_append, List.nil_append] at hh1
  rw [List.nil_append] at nd1
  have c8 : cs8.length = 8 := by
    have z := congrArg List.length sh1
    rw [List.length_map] at z
    exact z
  refine ⟨by rw [l1, c8]; decide, fun p1 np1 => ?_⟩
  have e1 := Ext.new (o := .lst vs8) S1.gh np1
  have T1 := (S1.ext e1).setV (i := 1) (v := .ref p1)
  have hh1' : CellsAt (Cs.b (r.at K noW noX) gy hy) (upd G1 p1 (.lst vs8)) (upd H1 p1 (.lst vs8)) vs8 cs8 := hh1.move e1.g fun p hp o z1 z2 => ⟨by rw [upd_ne (ne_of_none z2 np1)]; exact z1, e1.h _ _ z2⟩
  have hb1 : ∃ n, ([Arg.box a (m + 10), .v (.ref p1), .any, .any, .any, .any] : Env)[0]? = some (.box a n) := ⟨_, rfl⟩
  have bo1 := bo6 (a := a) (n := m + 10) (x1 := .v (.ref p1)) (x2 := .any) (x3 := .any) (x4 := .any) (x5 := .any) rfl rfl rfl rfl rfl
  refine gname_run ?_
  dsimp only
  refine seq_run (asg_run ⟨.ref p1, T1.sl 1 _ rfl, lst_run (ArgC.run (B := r.at K noW noX) (a := a) (shs := bads2) ?q2 w0 T1 hh1' nd1 ?_)⟩)
  case q2 =>
    iterate 3 (refine argc_lis bo1 hb1 ?_ ?_; rotate_left)
    iterate 4 (refine argc_fix bo1 hb1 ?_ ?_; rotate_left)
    iterate 5 (refine argc_lis bo1 hb1 ?_ ?_; rotate_left)
    · exact argc_nil
    all_goals repeat trivial
  intro vs12 cs12 G2 H2 s2 S2 hh2 sh2 nd2 l2
  have c12 : cs12.length = 12 := by
    have z := congrArg List.length sh2
    rw [List.length_map] at z
    exact z
  have g1 : G2 p1 = some (.lst vs8) := s2 _ _ upd_same
  refine ⟨by rw [l2, c12]; decide, fun p2 np2 => ⟨p1, p2, vs8, vs12, rfl, rfl, by rw [upd_ne (ne_of_none (S2.gh _ _ g1) np2)]; exact S2.gh _ _ g1, upd_same, by rw [l1, l2, c8, c12]; decide, fun p3 np3 => ?_⟩⟩
  have e2a := Ext.newH (o := .lst vs12) S2.gh np2
  have e2 := e2a.trans (Ext.new (o := .lst (vs8 ++ vs12)) e2a.s np3)
  have n3 : H2 p3 = none := e2a.h.free np3
  have T2 := (S2.ext e2).setV (i := 1) (v := .ref p3)
  have hh3 := hh2.move (H' := upd (upd H2 p2 (.lst vs12)) p3 (.lst (vs8 ++ vs12))) e2.g fun p hp o z1 z2 => ⟨by rw [upd_ne (ne_of_none z2 n3)]; exact z1, e2.h _ _ z2⟩
  have g3 : (upd G2 p3 (.lst (vs8 ++ vs12))) p3 = some (.lst (vs8 ++ vs12)) := upd_same
  have sh20 : (cs8 ++ cs12).map Cell.sh = bads1 ++ bads2 := by rw [List.map_append, sh1, sh2]
  have l20 : (vs8 ++ vs12).length = (cs8 ++ cs12).length := by rw [List.length_append, List.length_append, l1, l2]
  have c20 : (cs8 ++ cs12).length = 20 := by rw [List.length_append, c8, c12]
  have sG3 : Same G (upd G2 p3 (.lst (vs8 ++ vs12))) := ((s1.trans e1.g).trans s2).trans e2.g
  generalize vs8 ++ vs12 = vals at hh3 T2 g3 l20 sG3
  generalize cs8 ++ cs12 = cs at hh3 nd2 sh20 l20 c20
  refine gname_run ?_
  dsimp only
  clear e2 e2a
  generalize upd (upd H2 p2 (.lst vs12)) p3 (.lst vals) = H3 at hh3 T2 ⊢
  generalize upd G2 p3 (.lst vals) = G3 at hh3 T2 g3 sG3
  generalize (σ.set 1 (some (.ref p1))).set 1 (some (.ref p3)) = σ2 at T2 ⊢
  have hb3 : ∃ n, ([Arg.box a (m + 10), .v (.ref p3), .any, .any, .any, .any] : Env)[0]? = some (.box a n) := ⟨_, rfl⟩
  have bo3 := bo6 (a := a) (n := m + 10) (x1 := .v (.ref p3)) (x2 := .any) (x3 := .any) (x4 := .any) (x5 := .any) rfl rfl rfl rfl rfl
  refine seq_run (asg_run (op_run (lst_run (ArgC.run (B := r.at K noW noX) (a := a) (shs := wrongs) ?q3 w0 T2 hh3 nd2 ?_))))
  case q3 =>
    iterate 4 (refine argc_lis bo3 hb3 ?_ ?_; rotate_left)
    iterate 3 (refine argc_fix bo3 hb3 ?_ ?_; rotate_left)
    iterate 2 (refine argc_lis bo3 hb3 ?_ ?_; rotate_left)
    refine argc_fix bo3 hb3 ?_ ?_; rotate_left
    · exact argc_nil
    all_goals repeat trivial
  intro vs10 cs10 G4 H4 s4 S4 hh4 sh4 nd4 l4
  have c10 : cs10.length = 10 := by
    have z := congrArg List.length sh4
    rw [List.length_map] at z
    exact z
  refine ⟨by rw [l4, c10]; decide, fun p4 np4 => ?_⟩
  have e4 := Ext.new (o := .lst vs10) S4.gh np4
  have T4 := S4.ext e4
  have hh5 := hh4.move (H' := upd H4 p4 (.lst vs10)) e4.g fun p hp o z1 z2 => ⟨by rw [upd_ne (ne_of_none z2 np4)]; exact z1, e4.h _ _ z2⟩
  have g4 : (upd G4 p4 (.lst vs10)) p4 = some (.lst vs10) := upd_same
  have g3' : (upd G4 p4 (.lst vs10)) p3 = some (.lst vals) := e4.g _ _ (s4 _ _ g3)
  have sG5 : Same G (upd G4 p4 (.lst vs10)) := (sG3.trans s4).trans e4.g
  generalize upd H4 p4 (.lst vs10) = H5 at hh5 T4 ⊢
  generalize upd G4 p4 (.lst vs10) = G5 at hh5 T4 g4 g3' sG5
  obtain ⟨b0, g0, x0, bx⟩ := T4.sl 0 (.box a (m + 10)) rfl
  have p4a : p4 ≠ a := fun z => by rw [z, g0] at g4; cases g4
  have nd4' := List.nodup_cons.mp nd4
  have eads : ads (cs ++ cs10) = ads cs ++ ads cs10 := List.flatMap_append
  rw [eads] at nd4'
  obtain ⟨na4, nda⟩ := nd4'
  obtain ⟨ndc, ndw, ndx⟩ := List.nodup_append.mp nda
  refine ⟨.ref a, b0, a, [.int 10], G5, [.int 10], m + 9, fun d => ∃ t : Int, d = .int t ∧ 0 ≤ t ∧ t < 10, rfl, T4.gh, g0, bx, ⟨_, _, rfl, rfl, rfl⟩, rfl, ⟨10, rfl, by decide, by decide, fun t t0 t1 => ⟨t, rfl, t0, t1⟩⟩, ?_⟩
  rintro _ ⟨t, rfl, t0, t1⟩ v G' H6 e6 hb6 Dv
  cases (show v = V.int t from Dv)
  obtain ⟨j, rfl⟩ : ∃ j : Nat, t = (j : Int) := ⟨t.toNat, by omega⟩
  have hj : j < cs10.length := by omega
  obtain ⟨hv0, hv1⟩ := CellsAt.split l20 hh5
  obtain ⟨vw, hvw, hcw⟩ := hv1.get (List.getElem?_eq_getElem hj)
  have hcm : cs10[j] ∈ cs10 := List.getElem_mem hj
  have hcj : cs10[j]? = some cs10[j] := List.getElem?_eq_getElem hj
  generalize cs10[j] = cw at hcw hcm hcj
  have p46 : H6 p4 = some (.lst vs10) := e6.h _ _ p4a (T4.gh _ _ g4)
  refine .inl ⟨p4, vs10, (j : Int), vw, rfl, rfl, .inl (.inl p46), by rw [atI_ok (by omega)]; exact hvw, ?_⟩
  refine gname_run ?_
  dsimp only
  have eB : ExtB a G5 H5 G5 H6 := ⟨Same.refl _, e6.h, e6.g.trans e6.s, fun _ _ z => .inl z⟩
  have T6 := (T4.extB (i := 0) rfl eB hb6).setV (i := 2) (v := vw)
  have naw : ∀ p ∈ cw.ad, p ∈ ads cs10 := fun p hp => List.mem_flatMap.mpr ⟨cw, hcm, hp⟩
  have mv6 : ∀ p, p ≠ a → ∀ o, G5 p = none → H5 p = some o → G5 p = none ∧ H6 p = some o := fun p hp o z1 z2 => ⟨z1, e6.h _ _ hp z2⟩
  have hv6 : CellsAt (Cs.b (r.at K noW noX) gy hy) G5 H6 vals cs := hv0.move (Same.refl _) fun p hp => mv6 p fun z => na4 (List.mem_append_left _ (z ▸ hp))
  have hw6 : CellAt (Cs.b (r.at K noW noX) gy hy) G5 H6 vw cw := hcw.move (Same.refl _) fun p hp => mv6 p fun z => na4 (List.mem_append_right _ (z ▸ naw p hp))
  have ndR : (a :: (cw.ad ++ ads cs)).Nodup := by
    refine List.nodup_cons.mpr ⟨fun z => na4 ?_, List.nodup_append.mpr ⟨?_, ndc, fun x hx y hy' z => ndx y hy' x (naw x hx) z.symm⟩⟩
    · rcases List.mem_append.mp z with z | z
      · exact List.mem_append_right _ (naw a z)
      · exact List.mem_append_left _ z
    · cases cw <;> simp [Cell.ad]
  have R0 : RSt (Cs.b (r.at K noW noX) gy hy) a p3 (m + 9) .any .any .any G5 H6 (σ2.set 2 (some vw)) vals vw cs cw := ⟨T6, g3', hv6, hw6, ndR⟩
  generalize σ2.set 2 (some vw) = σ3 at R0 ⊢
  have ls0 : LSh 0 cs := ⟨c20, fun j c hc => ⟨0, c.sh, Nat.le_refl _, by rw [← sh20, List.getElem?_map, hc]; rfl, (grow0 _).symm⟩⟩
  have hwm : cw.sh ∈ wrongs := by
    rw [← sh4]
    exact List.mem_map.mpr ⟨cw, hcm, rfl⟩
  have wch := List.all_eq_true.mp wrongs_chk _ hwm
  rw [Bool.and_eq_true, Bool.and_eq_true, ← sh_dt] at wch
  obtain ⟨wsm, wask, wshow⟩ := wch
  have wsmall : small1 cw.dt := of_decide_eq_true wsm
  have wask' : isAsk cw.dt = false := by simpa using wask
  refine seq_run ⟨3, rfl, by decide, by decide, fun i mm σ' H' => mm = 3 - i ∧ i ≤ 3 ∧ ∃ cs' x3 x4 x5, Arg.own x3 = false ∧ Arg.own x4 = false ∧ Arg.own x5 = false ∧ LSh i cs' ∧ RSt (Cs.b (r.at K noW noX) gy hy) a p3 (m + 9 - i) x3 x4 x5 G5 H' σ' vals vw cs' cw, ⟨3, rfl, by decide, cs, .any, .any, .any, rfl, rfl, rfl, ls0, R0⟩, ?_⟩
  rintro i mm σ' H' ⟨rfl, hi, cs', x3, x4, x5, o3, o4, o5, lsi, R⟩
  by_cases hlt : i < 3
  · refine .inr ⟨hlt, fun σ2 H2 => ∃ cs' x3 x4 x5, Arg.own x3 = false ∧ Arg.own x4 = false ∧ Arg.own x5 = false ∧ LSh (i + 1) cs' ∧ RSt (Cs.b (r.at K noW noX) gy hy) a p3 (m + 9 - (i + 1)) x3 x4 x5 G5 H2 σ2 vals vw cs' cw, fun σ2 H2 q => ⟨3 - (i + 1), by omega, rfl, hlt, q⟩, ?_⟩
    rintro x H'' ⟨y1, y2⟩
    subst y1
    rw [y2]
    refine gname_run ?_
    have en : m + 9 - i = (m + 9 - (i + 1)) + 1 := by omega
    rw [en] at R
    have S3 := R.S.setD (i := 3) (v := .int (0 + (i : Int))) (d := .int (0 + (i : Int))) rfl (Nat.le_of_ble_eq_true rfl)
    refine turn_run (K := K) w0 ⟨S3, R.gb, R.hh, R.hw, R.nd⟩ o4 o5 (by omega) (by rw [lsi.1]; decide) (lsh_bad lsi hlt) wsmall fun σ'' H'' j c x4' x5' hc o4' o5' R' => ?_
    refine ⟨_, _, _, _, rfl, o4', o5', ⟨by rw [List.length_set]; exact lsi.1, fun j' c' hc' => ?_⟩, R'⟩
    by_cases hjj : j = j'
    · subst hjj
      rw [List.getElem?_set_self (List.getElem?_eq_some_iff.mp hc).1] at hc'
      cases hc'
      obtain ⟨k, base, hk, hb', e⟩ := lsi.2 j c hc
      exact ⟨k + 1, base, by omega, hb', sh_grow e⟩
    · rw [List.getElem?_set_ne hjj] at hc'
      obtain ⟨k, base, hk, hb', e⟩ := lsi.2 j' c' hc'
      exact ⟨k, base, by omega, hb', e⟩
  refine .inl ⟨(by show 3 ≤ i; omega), ?_⟩
  dsimp only
  obtain ⟨S5, _, _, hw5, nd5⟩ := R
  have S5 := ((S5.any 3).any 4).any 5
  have naw5 : a ∉ cw.ad := fun z => (List.nodup_cons.mp nd5).1 (List.mem_append_left _ z)
  have naw6 : a ∉ ads [cw] := fun z => naw5 (by
    have e : ads [cw] = cw.ad := List.append_nil _
    rw [e] at z
    exact z)
  have hn : m ≤ m + 9 - i := by omega
  generalize m + 9 - i = n at S5 hn
  have bo5 := bo6 (a := a) (n := n) (x1 := .v (.ref p3)) (x2 := .v vw) (x3 := .any) (x4 := .any) (x5 := .any) rfl rfl rfl rfl rfl
  obtain ⟨w1, T1, back⟩ := cell_base (a := a) w0 S5 (hv := [vw]) (hc := [cw]) ⟨hw5, trivial⟩ bo5 ⟨n, rfl⟩ naw6
  have q5 : Ev (r.at K noW noX) (tLst (tCons (tTup (tCons (tLst (tCons (tC (V.int 0)) tNil)) (tCons (tC (V.int 1)) (tCons (tC (V.int 2)) tNil)))) tNil)) [.box a n, .v (.ref p3), .v vw, .any, .any, .any] (fun d Γ' => d = .lst [A3 (L1 [0]) (.int 1) (.int 2)] ∧ Γ' = [.box a n, .v (.ref p3), .v vw, .any, .any, .any]) := by
    repeat trivial
  refine seq_run (asg_run (call_run (cons_run (c_run (cons_run (q5 _ _ w1 G5 H' σ' T1 _ fun v d Γ' G6 H7 ⟨ed, eΓ⟩ s6 S6 D6 => ?_))))))
  subst ed eΓ
  obtain ⟨S7, hcw7, _⟩ := back S6
  have r2 : σ'[2]? = some (some vw) := S7.sl 2 _ rfl
  obtain ⟨G7, s7, T7, D7, f7⟩ := hcw7.know S7 bo5 rfl naw5
  have gd : goodA (.lst [A3 (L1 [0]) (.int 1) (.int 2)]) = true := by decide +kernel
  refine ⟨vw, r2, G7, 2, _, cw.dt, v, vw, fun _ => False, fun _ => False, fun x u => x = sLot ∧ u = vw, rfl, T7.gh, Da.up s7 _ D6, D7, ⟨by decide +kernel, .inr (.inr ⟨rfl, wsmall, (fun _ z => by rw [wask'] at z; cases z), (fun _ _ => ⟨rfl, rfl⟩), (fun z => by rw [gd] at z; cases z)⟩)⟩, fun _ z => z.elim, fun _ z => z.elim, ?_⟩
  rintro _ u0 ⟨rfl, eu⟩ p6 G'' H8 e8 np6 gp6 hp6
  rw [eu] at hp6
  refine gname_run ?_
  dsimp only
  have S8 := (S7.ext (G' := G6) (H' := H8) ⟨Same.refl G6, e8.h, S7.gh.trans e8.h, fun _ _ z => .inl z⟩).setV (i := 5) (v := .ref p6)
  have hcw8 : CellAt (Cs.b (r.at K noW noX) gy hy) G6 H8 vw cw := hcw7.move (Same.refl _) fun p _ o z1 z2 => ⟨z1, e8.h _ _ z2⟩
  have p6c : p6 ∉ cw.ad := fun z => by
    obtain ⟨_, _, _, xs, e⟩ := CellsAt.held (vs := [vw]) (cs := [cw]) ⟨hcw7, trivial⟩ p6 (by show p6 ∈ cw.ad ++ []; rw [List.append_nil]; exact z)
    rw [np6] at e
    cases e
  have r22 : (σ'.set 5 (some (.ref p6)))[2]? = some (some vw) := S8.sl 2 _ rfl
  have bo8 := bo6 (a := a) (n := n) (x1 := .v (.ref p3)) (x2 := .v vw) (x3 := .any) (x4 := .any) (x5 := .v (.ref p6)) rfl rfl rfl rfl rfl
  have okw : sOkD (cw.grow grown).dt := by
    rw [sh_dt, sh_grow (grow0 cw.sh).symm]
    exact chkS_ok (List.all_eq_true.mp wshow 1 (by simp))
  have key : ∀ H9, (∀ q o, H8 q = some o → q ∉ cw.ad → H9 q = some o) → (∀ q, H8 q ≠ none → H9 q ≠ none) → CellAt (Cs.b (r.at K noW noX) gy hy) G6 H9 vw (cw.grow grown) → (tRet
      (tAndV (tOp rEq (tOp (rIx K) (tVar 5) (tC (V.int 0))) (tC (V.str (Str.ofString "lot"))))
        (tAndV (tOp (rEqX K) (tOp (rIx K) (tVar 5) (tC (V.int 1))) (tVar 2))
          (tOp rEq (tCB (rReprD K) (tCons (tOp (rIx K) (tVar 5) (tC (V.int 1))) tNil))
            (tCB (rReprD K) (tCons (tVar 2) tNil)))))) D (σ'.set 5 (some (.ref p6))) H9 := by
    intro H9 k9 l9 c9
    have heldc : ∀ q ∈ cw.ad, G6 q = none ∧ (Cs.b (r.at K noW noX) gy hy).Hx.h q = none := fun q z => by
      obtain ⟨z1, _, z2, _⟩ := CellsAt.held (vs := [vw]) (cs := [cw]) ⟨hcw8, trivial⟩ q (by show q ∈ cw.ad ++ []; rw [List.append_nil]; exact z)
      exact ⟨z1, z2⟩
    have bx9 : BoxSt n H9 a := by
      obtain ⟨g, bb, mm, cc, z1, z2⟩ := (S8.sl 0 (.box a n) rfl).2.2.2
      exact ⟨g, bb, mm, cc, k9 a _ z1 naw5, z2⟩
    have S9 := S8.reheap (a := a) (n := n) (m := n) bo8 rfl (fun q o z1 _ z3 => k9 q o z1 fun z => z3.elim (fun e => e (heldc q z).1) fun e => e (heldc q z).2) l9 bx9
    have ca' : a ∉ (cw.grow grown).ad := by rw [grow_ad]; exact naw5
    obtain ⟨Gk, sk, Tk, Dk, fk⟩ := c9.know S9 bo8 rfl ca'
    have gk6 : Gk p6 = none := by
      rw [fk p6 (by rw [grow_ad]; exact p6c)]
      exact S7.gh.free np6
    have hp69 : H9 p6 = some (.lst [.str sLot, vw]) := k9 p6 _ hp6 p6c
    have p6a : p6 ≠ a := fun z => by
      obtain ⟨g, bb, mm, cc, z1, _⟩ := (S7.sl 0 (.box a n) rfl).2.2.2
      rw [z, z1] at np6
      cases np6
    have T5 := Tk.know (a := a) (n := n) bo8 rfl gk6 (h0_fresh S7 np6) (hx_fresh S7 np6) hp69 p6a
    have Dk5 := Da.up (same_new (o := .lst [.str sLot, vw]) gk6) _ Dk
    have D5 : Da K (upd Gk p6 (.lst [.str sLot, vw])) (.ref p6) (.lst [.str sLot, (cw.grow grown).dt]) := ⟨p6, _, rfl, upd_same, _, _, rfl, rfl, vw, [], rfl, Dk5, rfl⟩
    have T6 := (T5.vd (i := 2) rfl Dk5).vd (i := 5) rfl D5
    have sfin : Same G (upd Gk p6 (.lst [.str sLot, vw])) := ((sG5.trans s6).trans sk).trans (same_new gk6)
    have fin : Sv (r.at K noW noX) (tRet
      (tAndV (tOp rEq (tOp (rIx K) (tVar 5) (tC (V.int 0))) (tC (V.str (Str.ofString "lot"))))
        (tAndV (tOp (rEqX K) (tOp (rIx K) (tVar 5) (tC (V.int 1))) (tVar 2))
          (tOp rEq (tCB (rReprD K) (tCons (tOp (rIx K) (tVar 5) (tC (V.int 1))) tNil))
            (tCB (rReprD K) (tCons (tVar 2) tNil))))))
        [.box a n, .v (.ref p3), .d (cw.grow grown).dt, .any, .any, .d (.lst [.str sLot, (cw.grow grown).dt])]
        { nx := fun Γ => (∃ m', m ≤ m' ∧ Γ[0]? = some (.box a m')) ∧ Ψ .non, rt := fun d Γ => (∃ m', m ≤ m' ∧ Γ[0]? = some (.box a m')) ∧ Ψ d } := by
      refine sv_ret (ev_and (ev_op (ev_op (ev_var rfl (ev_i ⟨_, opd_ix (n := 0) (.lst _) rfl, ev_s ⟨_, opd_eqS, _, rfl, ite_t (decide_eq_true (show sLot = Str.ofString "lot" from rfl)) ?_⟩⟩)))))
      refine ev_and (ev_op (ev_op (ev_var rfl (ev_i ⟨_, opd_ix (n := 1) (.lst _) rfl, ev_var rfl ⟨_, opd_eqX okw, _, rfl, ite_t rfl ?_⟩⟩))))
      refine ev_op (ev_cb (ea_cons (ev_op (ev_var rfl (ev_i ⟨_, opd_ix (n := 1) (.lst _) rfl, ea_nil ⟨_, cbd_repr okw, ?_⟩⟩)))))
      refine ev_cb (ea_cons (ev_var rfl (ea_nil ⟨_, cbd_repr okw, _, opd_eqS, ⟨n, hn, rfl⟩, ?_⟩)))
      rw [decide_eq_true rfl]
      exact hR
    exact fin gy hy w0 _ H9 _ D T6 (fun Γ' G' H' σ' z s' => k1 Γ' G' H' σ' z (sfin.trans s')) (fun d v Γ' G' H' σ' z s' => k2 d v Γ' G' H' σ' z (sfin.trans s')) (fun _ _ _ _ z => z.elim) (fun _ _ _ _ z => z.elim)
  refine seq_run (ifs_run (isi_run (G := G7) (T7.gh.trans e8.h) r22 D7 ?_))
  cases cw with
  | fix d =>
    have zf := List.all_eq_true.mp wrongs_fix _ hwm
    have zf' : d.isLst = false := by
      have z : (false || !d.isLst) = true := zf
      simpa using z
    exact ite_f zf' (next_run (key H8 (fun _ _ z _ => z) (fun _ z => z) hcw8))
  | lis p ds =>
    obtain ⟨rfl, c1, c2, c3, xs, c4, c5⟩ := hcw8
    have hx : xs.length ≤ 1000 := by
      rw [DaL.len c5]
      exact wsmall
    refine ite_t rfl ⟨.ref p, r22, .inl ⟨rfl, xs, .inl (.inl c4)⟩, p, xs, _, rfl, rfl, c4, Nat.lt_of_le_of_lt hx (by decide), ?_⟩
    refine key _ (fun q o z1 z2 => ?_) (fun q z => ?_) ⟨rfl, c1, c2, c3, _, upd_same, DaL.snoc c5 rfl⟩
    · rw [upd_ne fun z => z2 (by rw [z]; exact List.mem_singleton.mpr rfl)]
      exact z1
    · by_cases hq : q = p
      · rw [hq, upd_same]
        exact fun z => nomatch z
      · rw [upd_ne hq]
        exact z
end
end Cp
/-! K81r: law -/
namespace Cp
open PySem PySem.Spec PyProof.Rows L2
local macro_rules | `(tactic| trivial) => `(tactic| with_reducible refine ea_nil ?_)
local macro_rules | `(tactic| trivial) => `(tactic| with_reducible refine ea_cons ?_)
local macro_rules | `(tactic| trivial) => `(tactic| with_reducible refine et_test ?_)
local macro_rules | `(tactic| trivial) => `(tactic| with_reducible refine et_yes ?_)
local macro_rules | `(tactic| trivial) => `(tactic| with_reducible refine et_B ?_)
local macro_rules | `(tactic| trivial) => `(tactic| with_reducible refine ev_lenS ?_)
local macro_rules | `(tactic| trivial) => `(tactic| with_reducible refine et_and ?_)
local macro_rules | `(tactic| trivial) => `(tactic| with_reducible refine et_or ?_)
local macro_rules | `(tactic| trivial) => `(tactic| with_reducible refine et_not ?_)
local macro_rules | `(tactic| trivial) => `(tactic| with_reducible refine ev_if ?_)
local macro_rules | `(tactic| trivial) => `(tactic| with_reducible refine ev_chain ?_)
local macro_rules | `(tactic| trivial) => `(tactic| with_reducible refine ev_and ?_)
local macro_rules | `(tactic| trivial) => `(tactic| with_reducible refine ev_or ?_)
local macro_rules | `(tactic| trivial) => `(tactic| with_reducible refine ev_not ?_)
local macro_rules | `(tactic| trivial) => `(tactic| with_reducible refine ev_op ?_)
local macro_rules | `(tactic| trivial) => `(tactic| with_reducible refine ev_cb ?_)
local macro_rules | `(tactic| trivial) => `(tactic| with_reducible refine ev_isi kit_int ?_)
local macro_rules | `(tactic| trivial) => `(tactic| with_reducible refine ev_isi kit_bool ?_)
local macro_rules | `(tactic| trivial) => `(tactic| with_reducible refine ev_isi kit_str ?_)
local macro_rules | `(tactic| trivial) => `(tactic| with_reducible refine ev_isi kit_list ?_)
local macro_rules | `(tactic| trivial) => `(tactic| with_reducible refine ev_isi kit_tuple ?_)
local macro_rules | `(tactic| trivial) => `(tactic| with_reducible refine ev_isi2 kit_list kit_tuple ?_)
local macro_rules | `(tactic| trivial) => `(tactic| with_reducible refine ev_call ?_)
local macro_rules | `(tactic| trivial) => `(tactic| with_reducible refine ev_tup ?_)
local macro_rules | `(tactic| trivial) => `(tactic| with_reducible refine ev_i ?_)
local macro_rules | `(tactic| trivial) => `(tactic| with_reducible refine ev_b ?_)
local macro_rules | `(tactic| trivial) => `(tactic| with_reducible refine ev_n ?_)
local macro_rules | `(tactic| trivial) => `(tactic| with_reducible refine ev_s ?_)
local macro_rules | `(tactic| trivial) => `(tactic| ((with_reducible apply ev_var); · exact rfl))
local macro_rules | `(tactic| trivial) => `(tactic| ((with_reducible apply ev_varV); (· exact rfl); (· assumption)))
local macro_rules | `(tactic| trivial) => `(tactic| with_reducible refine sv_ret ?_)
local macro_rules | `(tactic| trivial) => `(tactic| with_reducible refine sv_if ?_)
local macro_rules | `(tactic| trivial) => `(tactic| (with_reducible refine sv_nx ?_))
local macro_rules | `(tactic| trivial) => `(tactic| ((with_reducible apply le_and); · exact rfl))
local macro_rules | `(tactic| trivial) => `(tactic| ((with_reducible apply lt_and); · exact rfl))
local macro_rules | `(tactic| trivial) => `(tactic| ((with_reducible apply ex_and); · exact rfl))
local macro_rules | `(tactic| trivial) => `(tactic| (((with_reducible apply eq_and); · exact rfl); try dsimp only [r0, r1, r2, r3, r4, x1, x2]))
local macro_rules | `(tactic| trivial) => `(tactic| with_reducible refine ⟨_, opd_I0, ?_⟩)
local macro_rules | `(tactic| trivial) => `(tactic| with_reducible refine ⟨_, opd_B0, ?_⟩)
local macro_rules | `(tactic| trivial) => `(tactic| with_reducible refine ⟨_, opd_isN, ?_⟩)
local macro_rules | `(tactic| trivial) => `(tactic| with_reducible refine ⟨_, opd_notN, ?_⟩)
local macro_rules | `(tactic| trivial) => `(tactic| with_reducible refine ⟨_, opd_isB, ?_⟩)
local macro_rules | `(tactic| trivial) => `(tactic| with_reducible refine ⟨_, opd_eqI, ?_⟩)
local macro_rules | `(tactic| trivial) => `(tactic| with_reducible refine ⟨_, opd_neI, ?_⟩)
local macro_rules | `(tactic| trivial) => `(tactic| ((with_reducible apply ite_t); · exact rfl))
local macro_rules | `(tactic| trivial) => `(tactic| ((with_reducible apply ite_f); · exact rfl))
local macro_rules | `(tactic| trivial) => `(tactic| with_reducible refine sv_seq ?_)
local macro_rules | `(tactic| trivial) => `(tactic| with_reducible refine tgl_nil ?_)
local macro_rules | `(tactic| trivial) => `(tactic| with_reducible apply tgl_cons)
local macro_rules | `(tactic| trivial) => `(tactic| ((with_reducible apply tg_tup); · exact rfl))
local macro_rules | `(tactic| trivial) => `(tactic| ((with_reducible apply tg_sqt); · exact rfl))
local macro_rules | `(tactic| trivial) => `(tactic| ((with_reducible refine tg_name ?_ ?_); · exact Nat.le_of_ble_eq_true rfl))
local macro_rules | `(tactic| trivial) => `(tactic| with_reducible refine sv_drop (te := tCallS _ _ _) ?_)
local macro_rules | `(tactic| trivial) => `(tactic| with_reducible refine sv_asg (te := tOp _ _ _) ?_)
local macro_rules | `(tactic| trivial) => `(tactic| with_reducible refine sv_asg (te := tCall _ _ _ _) ?_)
local macro_rules | `(tactic| trivial) => `(tactic| with_reducible refine sv_asg (te := tCallS _ _ _) ?_)
local macro_rules | `(tactic| trivial) => `(tactic| with_reducible refine sv_asg (te := tIf _ _ _) ?_)
local macro_rules | `(tactic| trivial) => `(tactic| with_reducible refine sv_asg (te := tVar _) ?_)
local macro_rules | `(tactic| trivial) => `(tactic| with_reducible refine sv_asg (te := tC _) ?_)
local macro_rules | `(tactic| trivial) => `(tactic| with_reducible refine sv_asg (te := tTup _) ?_)
local macro_rules | `(tactic| trivial) => `(tactic| with_reducible refine sv_asg (te := tAndV _ _) ?_)
local macro_rules | `(tactic| trivial) => `(tactic| with_reducible refine sv_asg (te := tOrV _ _) ?_)
local macro_rules | `(tactic| trivial) => `(tactic| with_reducible refine sv_asg (te := tNotV _) ?_)
local macro_rules | `(tactic| trivial) => `(tactic| with_reducible refine sv_asg (te := tDGet _ _) ?_)
local macro_rules | `(tactic| trivial) => `(tactic| with_reducible refine sv_asg (te := tUn _ _) ?_)
local macro_rules | `(tactic| trivial) => `(tactic| with_reducible apply sv_asgTp)
local macro_rules | `(tactic| trivial) => `(tactic| ((with_reducible apply ev_box0); · exact rfl))
local macro_rules | `(tactic| trivial) => `(tactic| ((with_reducible apply ev_box1); · exact rfl))
local macro_rules | `(tactic| trivial) => `(tactic| ((with_reducible apply ev_box2); · exact rfl))
local macro_rules | `(tactic| trivial) => `(tactic| ((with_reducible apply ev_box3); · exact rfl))
local macro_rules | `(tactic| trivial) => `(tactic| with_reducible apply sv_asgLp)
local macro_rules | `(tactic| trivial) => `(tactic| ((with_reducible apply tg_lst); · exact rfl))
abbrev s_law : Stmt := topS 57
theorem sc_law : FnScope ["script", "k", "box", "turn", "answers", "factor"] ["script"] (defScope s_law) := ⟨rfl, rfl, rfl, by decide +kernel, rfl, by decide +kernel, by decide +kernel⟩
theorem great_ok {l : List An} {g : Int} (hg : 1 ≤ g) (h : drawn l) : okL (l.map (greatA g)) := by
  obtain ⟨h1, h2, h3⟩ := h
  refine ⟨?_, fun a ha => ?_⟩
  · rw [List.map_map]
    exact h2
  · obtain ⟨c, hc, rfl⟩ := List.mem_map.mp ha
    obtain ⟨q1, q2, q3, q4⟩ := h3 c hc
    refine ⟨q1, Int.mul_nonneg q2 (by omega), fun x e => ?_⟩
    obtain ⟨y, hy, rfl⟩ := Option.map_eq_some_iff.mp e
    exact Int.mul_le_mul_of_nonneg_right (q4 y hy).1 (by omega)
theorem great_lo {l : List An} {g : Int} (hg : 1 ≤ g) (hg2 : g ≤ 10 ^ 28 + 7) (h : drawn l) : ∀ a ∈ l.map (greatA g), a.lo < 2 ^ 200 := fun a ha => by
  obtain ⟨c, hc, rfl⟩ := List.mem_map.mp ha
  obtain ⟨q1, q2, q3, q4⟩ := h.2.2 c hc
  have z : c.lo * g ≤ 100 * (10 ^ 28 + 7) := Int.le_trans (Int.mul_le_mul_of_nonneg_right q3 (by omega)) (Int.mul_le_mul_of_nonneg_left hg2 (by decide))
  exact Int.lt_of_le_of_lt z (by decide)
section
variable {P : Program} {w : World} {K : PySem.W.Frag} {mg : Str → Option Value} {base : Heap} {f : Addr} {fd : FuncData}
abbrev p_law (K : PySem.W.Frag) : Sp := Pu K 1 (r1 fun a Ψ => ∃ ns : List Int, a = .sq (ns.map .int) ∧ ns.length ≤ 63 ∧ Ψ (.bl true))
theorem d_law {CA CL : Addr} (B : Bi mg) (D__law_cell : DefOk P w K mg base CX0 1 "_law_cell" ["script", "k"] (p_cell K)) (D__law_box : DefOk P w K mg base CX0 1 "_law_box" ["great"] (p_box K))
    (D__law_take : DefOk P w K mg base CX0 1 "_law_take" ["box", "many"] (p_take K)) (D__law_part : DefOk P w K mg base CX0 4 "_law_part" ["box", "posts"] (p_part K)) (D__law_table : DefOk P w K mg base CX0 3 "_law_table" ["part"] (p_table K))
    (D__law_answers : DefOk P w K mg base CX0 3 "_law_answers" ["box", "table"] (p_answers K)) (D__law_great : DefOk P w K mg base CX0 1 "_law_great" ["answers", "factor"] (p_great K))
    (D__law_answers_right : DefOk P w K mg base CX0 12 "_law_answers_right" ["box", "answers"] (p_answers_right K)) (D__law_refused_right : DefG P w K mg base CX0 12 "_law_refused_right" ["box"] (p_refused_right K))
    (D_possible : DefOk P w K mg base (L2.CX P w) 9 "possible" ["answers"] (p_possible K CA)) (D_between : DefOk P w K mg base (L2.CX P w) 10 "between" ["answers", "lot"] (p_between K CA CL)) (D__law_same : ∀ n, DefOk P w K mg base CX0 n "_law_same" ["given", "due"] (p_same K n))
    (F : TopD K mg "law" s_law ["script"] f fd) : FnG P w K mg base CX0 13 f fd ["script"] (p_law K) := by
  have D__law_same := D__law_same 8
  refine (funG F.fn sc_law (fun _ _ _ _ => Pu.len) (fun cdv A outer s H vs Q E hG hr h => ⟨_, (pss_cons (ps_for PassesOwn.never rfl (pi_range1 (by rfl) B.range (pa_cons (pe_b (call_max2 rfl) B.max (pa_cons pe_int (pa_cons (pe_b (call_min2 rfl) B.min (pa_cons pe_int (pa_cons (pe_b (kLen (K := K) rfl) B.len (pa_cons (pv 0) pa_nil)) pa_nil))) pa_nil))) pa_nil)) (pg_name (i := 1) sc_law.nd rfl (.inl rfl)) (pss_cons (ps_set (i := 2) sc_law.nd rfl (.inl rfl) (pe_d D__law_box hr pass0 (pa_cons (pe_d D__law_cell hr pass0 (pa_cons (pv 0) (pa_cons (pv 1) pa_nil))) pa_nil)))
      (pss_cons (ps_for PassesOwn.never rfl (pi_range1 (by rfl) B.range (pa_cons pe_int pa_nil)) (pg_name (i := 3) sc_law.nd rfl (.inl rfl)) (pss_cons (ps_set (i := 4) sc_law.nd rfl (.inl rfl) (pe_d D__law_answers hr pass0 (pa_cons (pv 2) (pa_cons (pe_d D__law_table hr pass0 (pa_cons (pe_d D__law_part hr pass0 (pa_cons (pv 2) (pa_cons pe_int pa_nil))) pa_nil)) pa_nil))))
      (pss_cons (ps_set (i := 5) sc_law.nd rfl (.inl rfl) (pe_ifExp (pt_cmpR op_eq (pe_d D__law_take hr pass0 (pa_cons (pv 2) (pa_cons pe_int pa_nil))) pe_int (nomark _)) (pe_op op_add (pe_op op_pow pe_int pe_int) pe_int) pe_int))
      (pss_one (ps_if (pt_not (pt_val (pe_d D__law_answers_right hr pass0 (pa_cons (pv 2) (pa_cons (pe_d D__law_great hr pass0 (pa_cons (pv 4) (pa_cons (pv 5) pa_nil))) pa_nil))))) (pss_one (ps_ret pe_bl)) pss_nil)))))
      (pss_one (ps_if (PW.pt (pw_or (pt_not (pt_val (pe_dG D__law_refused_right hG hr pass0 (pa_cons (pv 2) pa_nil)))) (pw_or (pt_cmpR op_notBl (pe_d D_possible hr passL (pa_cons (pe_lst pa_nil) pa_nil)) pe_bl (nomark _)) (pw_or1 (pt_not (pt_val (pe_d D__law_same hr pass0 (pa_cons (pe_d D_between hr passL (pa_cons (pe_lst pa_nil) (pa_cons (pe_lst (pa_cons pe_int (pa_cons pe_int pa_nil))) pa_nil))) (pa_cons (pe_tup (pa_cons pe_int (pa_cons pe_non pa_nil))) pa_nil))))))))) (pss_one (ps_ret pe_bl)) pss_nil)))))
      (pss_one (ps_ret pe_bl))),
    pu_start h (by decide) fun r ds Ψ hl hR => ?_⟩))
  try dsimp only [cxOf, Cx.nox]
  obtain ⟨v, rfl⟩ := ds1 hl
  dsimp only [r1] at hR
  obtain ⟨ns, rfl, hn, hR⟩ := hR
  refine sv_seq (sv_for (js := [1]) (src_range ?_))
  refine ea_cons (ev_cb ?_)
  refine ea_cons (ev_i (ea_cons (ev_cb ?_)))
  refine ea_cons (ev_i (ea_cons (ev_cb ?_)))
  refine ea_cons (ev_var rfl (ea_nil ⟨_, cbd_len (.sq _), ?_⟩))
  refine ea_nil ⟨_, cbd_min2, ?_⟩
  refine ea_nil ⟨_, cbd_max2, ?_⟩
  rw [List.length_map]
  have hN : 0 ≤ max (2 : Int) (min 3 (ns.length : Int)) ∧ max (2 : Int) (min 3 (ns.length : Int)) ≤ 3 := by omega
  generalize max (2 : Int) (min 3 (ns.length : Int)) = N at hN
  refine ea_nil ⟨N, rfl, by omega, by omega, fun _ Γ => ∃ x1 x2 x3 x4 x5, Γ = [.d (.sq (ns.map .int)), x1, x2, x3, x4, x5], ⟨.any, .any, .any, .any, .any, rfl⟩, ?_, ?_⟩
  · rintro k Γ hk ⟨x1, x2, x3, x4, x5, rfl⟩
    have hk3 : k ≤ 3 := by omega
    refine tg_name (Nat.le_of_ble_eq_true rfl) ?_
    refine sv_seq (sv_asgN (en_call ?_))
    refine ea_cons (ev_call (ea_cons (ev_var rfl (ea_cons (ev_var rfl (ea_nil ⟨rfl, ns, k, rfl, rfl, hn, hk3, fun g => ?_⟩))))))
    refine ea_nil ⟨rfl, g, rfl, fun x b mm hx hm0 hm1 => ⟨Nat.le_of_ble_eq_true rfl, ?_⟩⟩
    refine sv_mkbox (n := 900) (i := 2) rfl hx ⟨hm0, hm1⟩ (by decide) fun a => ?_
    show Sv _ _ [.d (.sq (ns.map .int)), .d (.int (k : Int)), .box a 900, x3, x4, x5] _
    refine sv_seq (sv_for (js := [3]) (src_range ?_))
    refine ea_cons (ev_i (ea_nil ⟨2, rfl, by decide, by decide, fun i Γ => ∃ x3 x4 x5, Γ = [.d (.sq (ns.map .int)), .d (.int (k : Int)), .box a (900 - 410 * i), x3, x4, x5], ⟨x3, x4, x5, rfl⟩, ?_, ?_⟩))
    · rintro i Γ hi ⟨x3, x4, x5, rfl⟩
      have hi2 : i < 2 := hi
      refine tg_name (Nat.le_of_ble_eq_true rfl) ?_
      have e0 : 900 - 410 * i = (900 - 410 * (i + 1)) + 410 := by omega
      rw [e0]
      obtain ⟨c, hc⟩ : ∃ c, 900 - 410 * (i + 1) = c := ⟨_, rfl⟩
      rw [hc]
      refine sv_seq (sv_asg (ev_callBL rfl ?_))
      refine ea_cons (ev_call (ea_cons (ev_callBL rfl ?_)))
      refine ea_cons (ev_i (ea_nil ⟨rfl, c + 310, _, rfl, Nat.le_refl _, rfl, fun d hd => ?_⟩))
      refine ea_nil ⟨rfl, hd, fun xs hx8 hxs => ?_⟩
      refine ea_nil ⟨rfl, c + 110, _, rfl, Nat.le_refl _, xs, rfl, hx8, hxs, fun l hl => ?_⟩
      refine ⟨Nat.le_of_ble_eq_true rfl, ?_⟩
      refine sv_seq (sv_asg (Ev.imp (Φ := fun d Γ' => ∃ g : Int, 1 ≤ g ∧ g ≤ 10 ^ 28 + 7 ∧ d = .int g ∧ Γ' = [.d (.sq (ns.map .int)), .d (.int (k : Int)), .box a (c + 109), .d (.int (i : Int)), .d (.lst (l.map anD)), x5]) ?_ ?_))
      · refine ev_if (et_test (ev_op (ev_callBL rfl ?_)))
        refine ea_cons (ev_i (ea_nil ⟨rfl, c + 109, _, rfl, Nat.le_refl _, 6, rfl, by decide, by decide, fun t t0 t1 => ?_⟩))
        refine ev_i ⟨_, opd_eqI, _, rfl, ?_⟩
        cases decide (t = 0) with
        | true =>
          refine ite_t rfl (ev_op (ev_op (ev_i (ev_i ⟨_, opd_I ⟨by decide, by decide, by decide⟩, ev_i ⟨_, opd_I0, 10 ^ 28 + 7, by decide, Int.le_refl _, rfl, rfl⟩⟩))))
        | false => exact ite_f rfl (ev_i ⟨1, by decide, by decide, rfl, rfl⟩)
      rintro _ _ ⟨g, g1, g2, rfl, rfl⟩
      refine ⟨Nat.le_of_ble_eq_true rfl, ?_⟩
      refine sv_if (et_not (et_B (ev_callBL rfl ?_)))
      refine ea_cons (ev_call (ea_cons (ev_var rfl (ea_cons (ev_var rfl ?_)))))
      refine ea_nil ⟨rfl, l, g, .lst _, rfl, by have := hl.1; omega, hl.2.2, ?_⟩
      refine ea_nil ⟨rfl, c, _, rfl, (by show c + 100 ≤ c + 109; omega), l.map (greatA g), rfl, by rw [List.length_map]; exact hl.1, great_ok g1 hl, great_lo g1 g2 hl, ?_⟩
      exact ⟨_, rfl, ite_f rfl (sv_nx ⟨_, _, _, by rw [hc]; rfl⟩)⟩
    · rintro Γ ⟨x3, x4, x5, rfl⟩
      refine sv_if (et_or (et_not (et_B (ev_callBL rfl ?_))))
      refine ea_nil ⟨rfl, 70, _, rfl, by decide, ?_⟩
      refine ⟨_, rfl, ite_f rfl ?_⟩
      refine et_or (et_test (ev_op (ev_callV01 ?_)))
      refine ea_cons (EvN.ev (en_lst (ea_nil ⟨Nat.le_of_ble_eq_true rfl, ?_⟩)))
      refine ea_nil ⟨_, rfl, fun x => ⟨by decide +kernel, fun _ => ?_, fun z => by cases z⟩⟩
      refine ev_b ⟨_, opd_notB, _, rfl, ite_f (by decide +kernel) ?_⟩
      refine et_not (et_B (ev_call (ea_cons (ev_callV02 ?_))))
      refine ea_cons (EvN.ev (en_lst (ea_nil ⟨Nat.le_of_ble_eq_true rfl, ?_⟩)))
      refine ea_cons (EvN.ev (en_lst (ea_cons (ev_i (ea_cons (ev_i (ea_nil ⟨Nat.le_of_ble_eq_true rfl, ?_⟩)))))))
      refine ea_nil ⟨_, _, rfl, fun x y => ⟨by decide +kernel, by decide +kernel, fun _ _ => ?_, fun _ z => ?_, fun z => ?_⟩⟩
      · refine ea_cons (ev_tup (ea_cons (ev_i (ea_cons (ev_n (ea_nil ⟨Nat.le_of_ble_eq_true rfl, ?_⟩))))))
        exact ea_nil ⟨rfl, rfl, by decide +kernel, _, rfl, ite_f rfl (sv_nx ⟨_, _, _, _, _, rfl⟩)⟩
      · exact absurd z (by decide +kernel)
      · exact absurd z (by decide +kernel)
  · rintro Γ ⟨x1, x2, x3, x4, x5, rfl⟩
    exact sv_ret (ev_b hR)
end
end Cp
/-! K81s: all defs joined -/
namespace Cp
open PySem PySem.Spec PyProof.Rows L2
/-- a def of the top as it stands, wherever -/
def TopE (K : PySem.W.Frag) (mg : Str → Option Value) (x : Str) (st : Stmt) (ps : List Str) : Prop := ∃ f fd, TopD K mg x st ps f fd
theorem topE_mk {K : PySem.W.Frag} {mg : Str → Option Value} {h : Heap} {x : Str} {st : Stmt} {ps : List Str} {f : Addr} {oc : Value} {od an : Option Addr} {osl : Array (Option Value)} {kV doc pm cdv ct : Value} (X : K.In h) (G : h.Ns mainGlobals mg)
    (b : ∀ (kV doc pm : Value) (an : Option Addr) (cdv ct : Value) (us : List Value), us.length = ps.length → bindArgs (PySem.W.fnOf x x (defArgs st) (defBody st) (defScope st) .none kV doc pm an cdv ct) ⟨us, []⟩ = pure (ps.zip us))
    (a : PySem.W.nsIn K mainGlobals x = some (some (.ref f))) (l : K.lookup f = some ⟨oc, od, .func (PySem.W.fnOf x x (defArgs st) (defBody st) (defScope st) .none kV doc pm an cdv ct), osl⟩) (c : PySem.W.codeIn K cdv x = true) (k : PySem.W.keepIn K (.ref f) = true) : TopE K mg x st ps :=
  ⟨f, _, PySem.W.mg_of X G a, fun_mk l c k, (fun_mk l c k).binds b⟩
def clsS (i j : Nat) : Stmt := match topS i with
  | .ClassDef _ _ _ b _ _ _ _ _ _ _ => b.getD j (.Pass ⟨0, 0, 0, 0⟩)
  | _ => .Pass ⟨0, 0, 0, 0⟩
structure Txt81 (K : PySem.W.Frag) (mg : Str → Option Value) : Prop where
  is_integer : TopE K mg "is_integer" s_is_integer ["value"]
  is_count : TopE K mg "is_count" s_is_count ["value"]
  is_index : TopE K mg "is_index" s_is_index ["value", "many"]
  is_list : TopE K mg "is_list" s_is_list ["value"]
  is_tuple : TopE K mg "is_tuple" s_is_tuple ["value", "many"]
  are_indices : TopE K mg "are_indices" s_are_indices ["items", "many"]
  ascends : TopE K mg "ascends" s_ascends ["items"]
  is_lot : TopE K mg "is_lot" s_is_lot ["value", "many"]
  lot_number : TopE K mg "lot_number" s_lot_number ["lot"]
  lot_of : TopE K mg "lot_of" s_lot_of ["number", "many"]
  is_asked_lot : TopE K mg "is_asked_lot" s_is_asked_lot ["value"]
  is_answer : TopE K mg "is_answer" s_is_answer ["value"]
  is_answers : TopE K mg "is_answers" s_is_answers ["value"]
  check_answers : TopE K mg "check_answers" s_check_answers ["answers"]
  check_asked_lot : TopE K mg "check_asked_lot" s_check_asked_lot ["lot"]
  lesser : TopE K mg "lesser" s_lesser ["one", "other"]
  bounds_of : TopE K mg "bounds_of" s_bounds_of ["answers"]
  tops : TopE K mg "tops" s_tops ["bounds"]
  fits : TopE K mg "fits" s_fits ["bounds"]
  lowest : TopE K mg "lowest" s_lowest ["bounds", "number"]
  known : TopE K mg "known" s_known ["answers"]
  possible : TopE K mg "possible" s_possible ["answers"]
  between : TopE K mg "between" s_between ["answers", "lot"]
  open_lots : TopE K mg "open_lots" s_open_lots ["answers"]
  _law_cell : TopE K mg "_law_cell" s__law_cell ["script", "k"]
  _law_box : TopE K mg "_law_box" s__law_box ["great"]
  _law_take : TopE K mg "_law_take" s__law_take ["box", "many"]
  _law_mixed : TopE K mg "_law_mixed" s__law_mixed ["box", "items"]
  _law_cut : TopE K mg "_law_cut" s__law_cut ["net", "lot"]
  _law_least_cut : TopE K mg "_law_least_cut" s__law_least_cut ["part", "lot"]
  _law_lots : TopE K mg "_law_lots" s__law_lots ["posts"]
  _law_table : TopE K mg "_law_table" s__law_table ["part"]
  _law_ties : TopE K mg "_law_ties" s__law_ties ["box", "many", "count", "room", "price"]
  _law_part : TopE K mg "_law_part" s__law_part ["box", "posts"]
  _law_lots_of : TopE K mg "_law_lots_of" s__law_lots_of []
  _law_sentences : TopE K mg "_law_sentences" s__law_sentences []
  _law_tops : TopE K mg "_law_tops" s__law_tops ["answers"]
  _law_possible : TopE K mg "_law_possible" s__law_possible ["answers"]
  _law_put : TopE K mg "_law_put" s__law_put ["answers", "lot", "low", "high"]
  _law_between : TopE K mg "_law_between" s__law_between ["answers", "lot"]
  _law_great : TopE K mg "_law_great" s__law_great ["answers", "factor"]
  _law_copy : TopE K mg "_law_copy" s__law_copy ["answers"]
  _law_answers : TopE K mg "_law_answers" s__law_answers ["box", "table"]
  _law_same : TopE K mg "_law_same" s__law_same ["given", "due"]
  _law_asked : TopE K mg "_law_asked" s__law_asked ["way", "answers", "lot"]
  _law_answers_right : TopE K mg "_law_answers_right" s__law_answers_right ["box", "answers"]
  _law_refused_right : TopE K mg "_law_refused_right" s__law_refused_right ["box"]
  bi : Bi mg
  sides : Sides K mg
  posts : ∃ tP, mg "POSTS" = some (.int 3 tP)
  err : ∃ CA fA CL fL R mc fdA fdL, ErrC K mg "InvalidAnswers" CA fA ∧ ErrC K mg "InvalidLot" CL fL ∧ BaseC K mg "RoadError" R mc ∧ Fun K "__init__" "InvalidAnswers.__init__" (clsS 3 0) fA fdA ∧ Fun K "__init__" "InvalidLot.__init__" (clsS 2 0) fL fdL ∧
    Binds K fdA ["self", "given"] [] ∧ Binds K fdL ["self", "given"] [] ∧
    PySem.W.exmOne K (.ref CA) (.ref CA) = some true ∧ PySem.W.exmOne K (.ref CL) (.ref CA) = some false ∧ PySem.W.exmOne K (.ref CL) (.ref CL) = some true
theorem sc_initL : FnScope ["self", "given"] ["self", "given"] (defScope (clsS 2 0)) := ⟨rfl, rfl, rfl, by decide +kernel, rfl, by decide +kernel, by decide +kernel⟩
theorem sc_initA : FnScope ["self", "given"] ["self", "given"] (defScope (clsS 3 0)) := ⟨rfl, rfl, rfl, by decide +kernel, rfl, by decide +kernel, by decide +kernel⟩
section
variable {P : Program} {w : World} {K : PySem.W.Frag} {mg : Str → Option Value} {base : Heap} {f : Addr} {fd : FuncData}
theorem fn_initL {R : Addr} {mc : Value} (T : BaseC K mg "RoadError" R mc) (F : Fun K "__init__" "InvalidLot.__init__" (clsS 2 0) f fd) : FnOk P w K mg base CX0 1 f fd ["self", "given"] (spInit K) := by
  refine F.ok sc_initL (fun vs H Q E h => ?_) (fun cdv A outer s H vs Q E hr h => ⟨_, pss_cons (ps_expr (pe_binit (pl := _) T (pa_cons (pv 0) (pa_cons pe_str pa_nil)))) (pss_one (ps_ost (pv 0) (pv 1))), init_run h⟩)
  obtain ⟨a, C, v, rfl, _⟩ := h
  rfl
theorem fn_initA {R : Addr} {mc : Value} (T : BaseC K mg "RoadError" R mc) (F : Fun K "__init__" "InvalidAnswers.__init__" (clsS 3 0) f fd) : FnOk P w K mg base CX0 1 f fd ["self", "given"] (spInit K) := by
  refine F.ok sc_initA (fun vs H Q E h => ?_) (fun cdv A outer s H vs Q E hr h => ⟨_, pss_cons (ps_expr (pe_binit (pl := _) T (pa_cons (pv 0) (pa_cons pe_str pa_nil)))) (pss_one (ps_ost (pv 0) (pv 1))), init_run h⟩)
  obtain ⟨a, C, v, rfl, _⟩ := h
  rfl
/-- a def of one parameter called by its name -/
theorem kb1 {x : Str} {st : Stmt} {p : Str} (F : Fun K x x st f fd) (h : ∀ (kV doc pm : Value) (an : Option Addr) (cdv ct v : Value), bindArgs (PySem.W.fnOf x x (defArgs st) (defBody st) (defScope st) .none kV doc pm an cdv ct) ⟨[], [(p, v)]⟩ = pure [(p, v)]) : KBn K fd [p] 0 [p] (fun _ ws => ws) kwI := by
  obtain ⟨oc, od, kV, doc, pm, an, cdv, ct, osl, rfl, _⟩ := F.ex
  refine ⟨fun s us ws _ hu hw => ?_, fun _ r => r⟩
  obtain rfl : us = [] := List.length_eq_zero_iff.mp hu
  match ws, hw with
  | [v], _ => exact .of_eq (h kV doc pm an cdv ct v)
def swB (_ ws : List Value) : List Value := match ws with
  | [a, b] => [b, a]
  | l => l
theorem kbS {x : Str} {st : Stmt} {p q : Str} (F : Fun K x x st f fd) (h : ∀ (kV doc pm : Value) (an : Option Addr) (cdv ct v u : Value), bindArgs (PySem.W.fnOf x x (defArgs st) (defBody st) (defScope st) .none kV doc pm an cdv ct) ⟨[], [(q, v), (p, u)]⟩ = pure [(p, u), (q, v)]) : KBn K fd [p, q] 0 [q, p] swB kwS := by
  obtain ⟨oc, od, kV, doc, pm, an, cdv, ct, osl, rfl, _⟩ := F.ex
  refine ⟨fun s us ws _ hu hw => ?_, fun {vs us zs ws} _ r => ?_⟩
  · obtain rfl : us = [] := List.length_eq_zero_iff.mp hu
    match ws, hw with
    | [v, u], _ => exact .of_eq (h kV doc pm an cdv ct v u)
  · cases r with
    | nil => exact .nil
    | cons r1 r2 =>
      cases r2 with
      | nil => exact .cons r1 .nil
      | cons r3 r4 =>
        cases r4 with
        | nil => exact .cons r3 (.cons r1 .nil)
        | cons r5 r6 => exact .cons r1 (.cons r3 (.cons r5 r6))
theorem law_ok (T : Txt81 K mg) (F_law : TopD K mg "law" s_law ["script"] f fd) : FnG P w K mg base CX0 13 f fd ["script"] (p_law K) := by
  obtain ⟨_, _, F_is_integer⟩ := T.is_integer
  obtain ⟨_, _, F_is_count⟩ := T.is_count
  obtain ⟨_, _, F_is_index⟩ := T.is_index
  obtain ⟨_, _, F_is_list⟩ := T.is_list
  obtain ⟨_, _, F_is_tuple⟩ := T.is_tuple
  obtain ⟨_, _, F_are_indices⟩ := T.are_indices
  obtain ⟨_, _, F_ascends⟩ := T.ascends
  obtain ⟨_, _, F_is_lot⟩ := T.is_lot
  obtain ⟨_, _, F_lot_number⟩ := T.lot_number
  obtain ⟨_, _, F_lot_of⟩ := T.lot_of
  obtain ⟨_, _, F_is_asked_lot⟩ := T.is_asked_lot
  obtain ⟨_, _, F_is_answer⟩ := T.is_answer
  obtain ⟨_, _, F_is_answers⟩ := T.is_answers
  obtain ⟨_, _, F_check_answers⟩ := T.check_answers
  obtain ⟨_, _, F_check_asked_lot⟩ := T.check_asked_lot
  obtain ⟨_, _, F_lesser⟩ := T.lesser
  obtain ⟨_, _, F_bounds_of⟩ := T.bounds_of
  obtain ⟨_, _, F_tops⟩ := T.tops
  obtain ⟨_, _, F_fits⟩ := T.fits
  obtain ⟨_, _, F_lowest⟩ := T.lowest
  obtain ⟨_, _, F_known⟩ := T.known
  obtain ⟨_, _, F_possible⟩ := T.possible
  obtain ⟨_, _, F_between⟩ := T.between
  obtain ⟨_, _, F_open_lots⟩ := T.open_lots
  obtain ⟨_, _, F__law_cell⟩ := T._law_cell
  obtain ⟨_, _, F__law_box⟩ := T._law_box
  obtain ⟨_, _, F__law_take⟩ := T._law_take
  obtain ⟨_, _, F__law_mixed⟩ := T._law_mixed
  obtain ⟨_, _, F__law_cut⟩ := T._law_cut
  obtain ⟨_, _, F__law_least_cut⟩ := T._law_least_cut
  obtain ⟨_, _, F__law_lots⟩ := T._law_lots
  obtain ⟨_, _, F__law_table⟩ := T._law_table
  obtain ⟨_, _, F__law_ties⟩ := T._law_ties
  obtain ⟨_, _, F__law_part⟩ := T._law_part
  obtain ⟨_, _, F__law_lots_of⟩ := T._law_lots_of
  obtain ⟨_, _, F__law_sentences⟩ := T._law_sentences
  obtain ⟨_, _, F__law_tops⟩ := T._law_tops
  obtain ⟨_, _, F__law_possible⟩ := T._law_possible
  obtain ⟨_, _, F__law_put⟩ := T._law_put
  obtain ⟨_, _, F__law_between⟩ := T._law_between
  obtain ⟨_, _, F__law_great⟩ := T._law_great
  obtain ⟨_, _, F__law_copy⟩ := T._law_copy
  obtain ⟨_, _, F__law_answers⟩ := T._law_answers
  obtain ⟨_, _, F__law_same⟩ := T._law_same
  obtain ⟨_, _, F__law_asked⟩ := T._law_asked
  obtain ⟨_, _, F__law_answers_right⟩ := T._law_answers_right
  obtain ⟨_, _, F__law_refused_right⟩ := T._law_refused_right
  have B := T.bi
  have S := T.sides
  obtain ⟨_, hPosts⟩ := T.posts
  obtain ⟨CA, fA, CL, fL, R, mc, fdA, fdL, T_InvalidAnswers, T_InvalidLot, T_RoadError, FA, FL, bA, bL, xAA, xLA, xLL⟩ := T.err
  have E_InvalidAnswers : ErrOk P w K mg base "InvalidAnswers" CA := ⟨fA, fdA, T_InvalidAnswers, bA, fn_initA T_RoadError FA⟩
  have E_InvalidLot : ErrOk P w K mg base "InvalidLot" CL := ⟨fL, fdL, T_InvalidLot, bL, fn_initL T_RoadError FL⟩
  have D_is_integer := d_is_integer (P := P) (w := w) (base := base) B F_is_integer
  have D_is_count := d_is_count (P := P) (w := w) (base := base) B D_is_integer F_is_count
  have D_is_index := d_is_index (P := P) (w := w) (base := base) B D_is_integer F_is_index
  have D_is_list := d_is_list (P := P) (w := w) (base := base) B F_is_list
  have D_is_tuple := d_is_tuple (P := P) (w := w) (base := base) B F_is_tuple
  have D_are_indices := d_are_indices (P := P) (w := w) (base := base) B D_is_index F_are_indices
  have D_ascends := d_ascends (P := P) (w := w) (base := base) B F_ascends
  have D_is_lot := d_is_lot (P := P) (w := w) (base := base) B D_is_list D_are_indices D_ascends F_is_lot
  have D_lot_number := d_lot_number (P := P) (w := w) (base := base) B F_lot_number
  have D_lot_of := d_lot_of (P := P) (w := w) (base := base) B F_lot_of
  have D_is_asked_lot := d_is_asked_lot (P := P) (w := w) (base := base) B hPosts D_is_lot F_is_asked_lot
  have D_is_answer := d_is_answer (P := P) (w := w) (base := base) B D_is_integer D_is_count D_is_tuple D_is_asked_lot F_is_answer
  have D_is_answers := d_is_answers (P := P) (w := w) (base := base) B D_is_list D_is_answer D_lot_number F_is_answers
  have D_check_answers := d_check_answers (P := P) (w := w) (base := base) B E_InvalidAnswers D_is_answers F_check_answers
  have D_check_asked_lot := d_check_asked_lot (P := P) (w := w) (base := base) B E_InvalidLot D_is_asked_lot F_check_asked_lot
  have D_lesser := d_lesser (P := P) (w := w) (base := base) B F_lesser
  have D_bounds_of := d_bounds_of (P := P) (w := w) (base := base) B S D_lot_number F_bounds_of
  have D_tops := d_tops (P := P) (w := w) (base := base) B S D_lesser F_tops
  have D_fits := d_fits (P := P) (w := w) (base := base) B S D_tops F_fits
  have D_lowest := d_lowest (P := P) (w := w) (base := base) B S F_lowest
  have D_known := d_known (P := P) (w := w) (base := base) B E_InvalidAnswers D_check_answers D_bounds_of D_fits F_known
  have N_possible := fn_possible (P := P) (w := w) (base := base) B D_check_answers D_bounds_of D_fits F_possible
  have D_possible := d_possible (P := P) (w := w) (base := base) B D_check_answers D_bounds_of D_fits F_possible
  have N_between := fn_between (P := P) (w := w) (base := base) B D_known D_check_asked_lot D_lot_number D_lowest D_tops F_between
  have D_between := d_between (P := P) (w := w) (base := base) B D_known D_check_asked_lot D_lot_number D_lowest D_tops F_between
  have N_open_lots := fn_open_lots (P := P) (w := w) (base := base) B S hPosts D_known D_tops D_lot_of D_lowest F_open_lots
  have KW_possible : KwOk P w K mg base (L2.CX P w) 9 "possible" ["answers"] ["answers"] kwI (p_possible K CA) := ⟨_, _, _, F_possible.g, F_possible.fn.kp, kb1 F_possible.fn (fun _ _ _ _ _ _ _ => rfl), N_possible⟩
  have KW_between : KwOk P w K mg base (L2.CX P w) 10 "between" ["answers", "lot"] ["lot", "answers"] kwS (p_between K CA CL) := ⟨_, _, _, F_between.g, F_between.fn.kp, kbS F_between.fn (fun _ _ _ _ _ _ _ _ => rfl), N_between⟩
  have KW_open_lots : KwOk P w K mg base (L2.CX P w) 10 "open_lots" ["answers"] ["answers"] kwI (p_open_lots K CA) := ⟨_, _, _, F_open_lots.g, F_open_lots.fn.kp, kb1 F_open_lots.fn (fun _ _ _ _ _ _ _ => rfl), N_open_lots⟩
  have D_open_lots := d_open_lots (P := P) (w := w) (base := base) B S hPosts D_known D_tops D_lot_of D_lowest F_open_lots
  have D__law_cell := d__law_cell (P := P) (w := w) (base := base) B F__law_cell
  have D__law_box := d__law_box (P := P) (w := w) (base := base) B F__law_box
  have D__law_take := d__law_take (P := P) (w := w) (base := base) B F__law_take
  have D__law_mixed := d__law_mixed (P := P) (w := w) (base := base) B D__law_take F__law_mixed
  have D__law_cut := d__law_cut (P := P) (w := w) (base := base) B F__law_cut
  have D__law_least_cut := d__law_least_cut (P := P) (w := w) (base := base) B D__law_cut F__law_least_cut
  have D__law_lots := d__law_lots (P := P) (w := w) (base := base) B F__law_lots
  have D__law_table := d__law_table (P := P) (w := w) (base := base) B D__law_lots D__law_least_cut F__law_table
  have D__law_ties := d__law_ties (P := P) (w := w) (base := base) B D__law_take D__law_mixed F__law_ties
  have D__law_part := d__law_part (P := P) (w := w) (base := base) B D__law_take D__law_mixed D__law_ties F__law_part
  have D__law_lots_of := d__law_lots_of (P := P) (w := w) (base := base) B F__law_lots_of
  have D__law_sentences := d__law_sentences (P := P) (w := w) (base := base) B F__law_sentences
  have D__law_tops := d__law_tops (P := P) (w := w) (base := base) B D__law_lots_of D__law_sentences F__law_tops
  have D__law_possible := d__law_possible (P := P) (w := w) (base := base) B D__law_tops F__law_possible
  have D__law_put := d__law_put (P := P) (w := w) (base := base) B F__law_put
  have D__law_between := d__law_between (P := P) (w := w) (base := base) B D__law_tops D__law_possible D__law_put F__law_between
  have D__law_great := d__law_great (P := P) (w := w) (base := base) B F__law_great
  have D__law_copy := d__law_copy (P := P) (w := w) (base := base) B F__law_copy
  have D__law_answers := d__law_answers (P := P) (w := w) (base := base) B D__law_take D__law_mixed D__law_lots_of F__law_answers
  have D__law_same := d__law_same (P := P) (w := w) (base := base) B F__law_same
  have D__law_asked := d__law_asked (P := P) (w := w) (base := base) B T_InvalidAnswers T_InvalidLot T_RoadError xAA xLA xLL D_possible D_between D_open_lots F__law_asked
  have D__law_answers_right := d__law_answers_right (P := P) (w := w) (base := base) B D__law_take D__law_copy D__law_possible D__law_same D_possible KW_possible KW_between KW_open_lots D__law_lots_of D__law_asked D__law_between D__law_put F__law_answers_right
  have D__law_refused_right := d__law_refused_right (P := P) (w := w) (base := base) B D__law_take D__law_asked F__law_refused_right
  exact d_law (P := P) (w := w) (base := base) B D__law_cell D__law_box D__law_take D__law_part D__law_table D__law_answers D__law_great D__law_answers_right D__law_refused_right D_possible D_between D__law_same F_law
end
end Cp
/-! K81z: what the top has written; the end -/
namespace Cp
open PySem PySem.Spec PyProof.Rows L2
theorem exm_mk {K : PySem.W.Frag} {C S : Addr} {b : Bool} (h1 : PySem.W.subIn K (.ref S) (.type "BaseException") = some true) (h2 : PySem.W.isClsIn K S = true) (h3 : PySem.W.typeIn K (.ref S) = some (.type "type")) (h4 : PySem.W.subIn K (.ref C) (.ref S) = some b) :
    PySem.W.exmOne K (.ref C) (.ref S) = some b := by
  have e1 : (PySem.W.subIn K (.ref S) (.type "BaseException") == some true) = true := by rw [h1] <;> rfl
  have e2 : ((PySem.W.clsIn K S).isSome && PySem.W.typeIn K (.ref S) == some (.type "type")) = true := by
    rw [show (PySem.W.clsIn K S).isSome = true from h2, h3] <;> rfl
  exact (if_pos e1).trans ((if_pos e2).trans h4)
theorem side_val {K : PySem.W.Frag} {a : Addr} {dd : Option Addr} {p q : Int} {t u : Tok} {n : Nat} {sl : Array (Option Value)} (l : K.lookup a = some ⟨.type "tuple", dd, .seq #[.int p t, .int q u] n, sl⟩) (G : Hp) : Da K G (.ref a) (.sqt [.int p, .int q]) :=
  ⟨a, [.int p, .int q], rfl, .inr ⟨_, #[.int p t, .int q u], n, l, rfl, rfl, Nat.le_of_ble_eq_true rfl, .cons ⟨t, rfl⟩ (.cons ⟨u, rfl⟩ .nil)⟩, _, _, rfl, rfl, _, _, rfl, rfl, rfl⟩
set_option maxHeartbeats 0 in
theorem all_mk {w : World} {K : PySem.W.Frag} {h : Heap} {mg : Str → Option Value} {fa : Addr} (X : K.In h) (G : h.Ns mainGlobals mg) (hfa : mg "law" = some (.ref fa))
    {f0 : Addr} {oc0 kV0 dc0 pm0 cd0 ct0 : Value} {od0 an0 : Option Addr} {sl0 : Array (Option Value)}
    {f1 : Addr} {oc1 kV1 dc1 pm1 cd1 ct1 : Value} {od1 an1 : Option Addr} {sl1 : Array (Option Value)}
    {f2 : Addr} {oc2 kV2 dc2 pm2 cd2 ct2 : Value} {od2 an2 : Option Addr} {sl2 : Array (Option Value)}
    {f3 : Addr} {oc3 kV3 dc3 pm3 cd3 ct3 : Value} {od3 an3 : Option Addr} {sl3 : Array (Option Value)}
    {f4 : Addr} {oc4 kV4 dc4 pm4 cd4 ct4 : Value} {od4 an4 : Option Addr} {sl4 : Array (Option Value)}
    {f5 : Addr} {oc5 kV5 dc5 pm5 cd5 ct5 : Value} {od5 an5 : Option Addr} {sl5 : Array (Option Value)}
    {f6 : Addr} {oc6 kV6 dc6 pm6 cd6 ct6 : Value} {od6 an6 : Option Addr} {sl6 : Array (Option Value)}
    {f7 : Addr} {oc7 kV7 dc7 pm7 cd7 ct7 : Value} {od7 an7 : Option Addr} {sl7 : Array (Option Value)}
    {f8 : Addr} {oc8 kV8 dc8 pm8 cd8 ct8 : Value} {od8 an8 : Option Addr} {sl8 : Array (Option Value)}
    {f9 : Addr} {oc9 kV9 dc9 pm9 cd9 ct9 : Value} {od9 an9 : Option Addr} {sl9 : Array (Option Value)}
    {f10 : Addr} {oc10 kV10 dc10 pm10 cd10 ct10 : Value} {od10 an10 : Option Addr} {sl10 : Array (Option Value)}
    {f11 : Addr} {oc11 kV11 dc11 pm11 cd11 ct11 : Value} {od11 an11 : Option Addr} {sl11 : Array (Option Value)}
    {f12 : Addr} {oc12 kV12 dc12 pm12 cd12 ct12 : Value} {od12 an12 : Option Addr} {sl12 : Array (Option Value)}
    {f13 : Addr} {oc13 kV13 dc13 pm13 cd13 ct13 : Value} {od13 an13 : Option Addr} {sl13 : Array (Option Value)}
    {f14 : Addr} {oc14 kV14 dc14 pm14 cd14 ct14 : Value} {od14 an14 : Option Addr} {sl14 : Array (Option Value)}
    {f15 : Addr} {oc15 kV15 dc15 pm15 cd15 ct15 : Value} {od15 an15 : Option Addr} {sl15 : Array (Option Value)}
    {f16 : Addr} {oc16 kV16 dc16 pm16 cd16 ct16 : Value} {od16 an16 : Option Addr} {sl16 : Array (Option Value)}
    {f17 : Addr} {oc17 kV17 dc17 pm17 cd17 ct17 : Value} {od17 an17 : Option Addr} {sl17 : Array (Option Value)}
    {f18 : Addr} {oc18 kV18 dc18 pm18 cd18 ct18 : Value} {od18 an18 : Option Addr} {sl18 : Array (Option Value)}
    {f19 : Addr} {oc19 kV19 dc19 pm19 cd19 ct19 : Value} {od19 an19 : Option Addr} {sl19 : Array (Option Value)}
    {f20 : Addr} {oc20 kV20 dc20 pm20 cd20 ct20 : Value} {od20 an20 : Option Addr} {sl20 : Array (Option Value)}
    {f21 : Addr} {oc21 kV21 dc21 pm21 cd21 ct21 : Value} {od21 an21 : Option Addr} {sl21 : Array (Option Value)}
    {f22 : Addr} {oc22 kV22 dc22 pm22 cd22 ct22 : Value} {od22 an22 : Option Addr} {sl22 : Array (Option Value)}
    {f23 : Addr} {oc23 kV23 dc23 pm23 cd23 ct23 : Value} {od23 an23 : Option Addr} {sl23 : Array (Option Value)}
    {f24 : Addr} {oc24 kV24 dc24 pm24 cd24 ct24 : Value} {od24 an24 : Option Addr} {sl24 : Array (Option Value)}
    {f25 : Addr} {oc25 kV25 dc25 pm25 cd25 ct25 : Value} {od25 an25 : Option Addr} {sl25 : Array (Option Value)}
    {f26 : Addr} {oc26 kV26 dc26 pm26 cd26 ct26 : Value} {od26 an26 : Option Addr} {sl26 : Array (Option Value)}
    {f27 : Addr} {oc27 kV27 dc27 pm27 cd27 ct27 : Value} {od27 an27 : Option Addr} {sl27 : Array (Option Value)}
    {f28 : Addr} {oc28 kV28 dc28 pm28 cd28 ct28 : Value} {od28 an28 : Option Addr} {sl28 : Array (Option Value)}
    {f29 : Addr} {oc29 kV29 dc29 pm29 cd29 ct29 : Value} {od29 an29 : Option Addr} {sl29 : Array (Option Value)}
    {f30 : Addr} {oc30 kV30 dc30 pm30 cd30 ct30 : Value} {od30 an30 : Option Addr} {sl30 : Array (Option Value)}
    {f31 : Addr} {oc31 kV31 dc31 pm31 cd31 ct31 : Value} {od31 an31 : Option Addr} {sl31 : Array (Option Value)}
    {f32 : Addr} {oc32 kV32 dc32 pm32 cd32 ct32 : Value} {od32 an32 : Option Addr} {sl32 : Array (Option Value)}
    {f33 : Addr} {oc33 kV33 dc33 pm33 cd33 ct33 : Value} {od33 an33 : Option Addr} {sl33 : Array (Option Value)}
    {f34 : Addr} {oc34 kV34 dc34 pm34 cd34 ct34 : Value} {od34 an34 : Option Addr} {sl34 : Array (Option Value)}
    {f35 : Addr} {oc35 kV35 dc35 pm35 cd35 ct35 : Value} {od35 an35 : Option Addr} {sl35 : Array (Option Value)}
    {f36 : Addr} {oc36 kV36 dc36 pm36 cd36 ct36 : Value} {od36 an36 : Option Addr} {sl36 : Array (Option Value)}
    {f37 : Addr} {oc37 kV37 dc37 pm37 cd37 ct37 : Value} {od37 an37 : Option Addr} {sl37 : Array (Option Value)}
    {f38 : Addr} {oc38 kV38 dc38 pm38 cd38 ct38 : Value} {od38 an38 : Option Addr} {sl38 : Array (Option Value)}
    {f39 : Addr} {oc39 kV39 dc39 pm39 cd39 ct39 : Value} {od39 an39 : Option Addr} {sl39 : Array (Option Value)}
    {f40 : Addr} {oc40 kV40 dc40 pm40 cd40 ct40 : Value} {od40 an40 : Option Addr} {sl40 : Array (Option Value)}
    {f41 : Addr} {oc41 kV41 dc41 pm41 cd41 ct41 : Value} {od41 an41 : Option Addr} {sl41 : Array (Option Value)}
    {f42 : Addr} {oc42 kV42 dc42 pm42 cd42 ct42 : Value} {od42 an42 : Option Addr} {sl42 : Array (Option Value)}
    {f43 : Addr} {oc43 kV43 dc43 pm43 cd43 ct43 : Value} {od43 an43 : Option Addr} {sl43 : Array (Option Value)}
    {f44 : Addr} {oc44 kV44 dc44 pm44 cd44 ct44 : Value} {od44 an44 : Option Addr} {sl44 : Array (Option Value)}
    {f45 : Addr} {oc45 kV45 dc45 pm45 cd45 ct45 : Value} {od45 an45 : Option Addr} {sl45 : Array (Option Value)}
    {f46 : Addr} {oc46 kV46 dc46 pm46 cd46 ct46 : Value} {od46 an46 : Option Addr} {sl46 : Array (Option Value)}
    {f47 : Addr} {oc47 kV47 dc47 pm47 cd47 ct47 : Value} {od47 an47 : Option Addr} {sl47 : Array (Option Value)}
    {tP : Tok}
    {dS : Addr} {epS : Nat} {h0_ : Int} {v0_ : Addr} {t0_ u0_ w0_ : Tok} {n0_ : Nat} {sl0_ : Array (Option Value)} {dd0_ : Option Addr} {h1_ : Int} {v1_ : Addr} {t1_ u1_ w1_ : Tok} {n1_ : Nat} {sl1_ : Array (Option Value)} {dd1_ : Option Addr} {h2_ : Int} {v2_ : Addr} {t2_ u2_ w2_ : Tok} {n2_ : Nat} {sl2_ : Array (Option Value)} {dd2_ : Option Addr} {h3_ : Int} {v3_ : Addr} {t3_ u3_ w3_ : Tok} {n3_ : Nat} {sl3_ : Array (Option Value)} {dd3_ : Option Addr} {h4_ : Int} {v4_ : Addr} {t4_ u4_ w4_ : Tok} {n4_ : Nat} {sl4_ : Array (Option Value)} {dd4_ : Option Addr} {h5_ : Int} {v5_ : Addr} {t5_ u5_ w5_ : Tok} {n5_ : Nat} {sl5_ : Array (Option Value)} {dd5_ : Option Addr}
    {CA NA iA : Addr} {nmA qA : Str} {bsA bmA subA : List Value} {snA : List Str} {abA : Bool} {colA : Option Bool} {ddA odA anA : Option Addr} {m0A m1A m2A m3A m5A : Option Value} {ocA kVA dcA pmA cdA ctA : Value} {slA : Array (Option Value)}
    {CL NL iL : Addr} {nmL qL : Str} {bsL bmL subL : List Value} {snL : List Str} {abL : Bool} {colL : Option Bool} {ddL odL anL : Option Addr} {m0L m1L m2L m3L m5L : Option Value} {ocL kVL dcL pmL cdL ctL : Value} {slL : Array (Option Value)}
    {R : Addr}
    (a0 : PySem.W.nsIn K mainGlobals "is_integer" = some (some (.ref f0)))
    (l0 : K.lookup f0 = some ⟨oc0, od0, .func (PySem.W.fnOf "is_integer" "is_integer" (defArgs s_is_integer) (defBody s_is_integer) (defScope s_is_integer) .none kV0 dc0 pm0 an0 cd0 ct0), sl0⟩)
    (c0 : PySem.W.codeIn K cd0 "is_integer" = true)
    (k0 : PySem.W.keepIn K (.ref f0) = true)
    (a1 : PySem.W.nsIn K mainGlobals "is_count" = some (some (.ref f1)))
    (l1 : K.lookup f1 = some ⟨oc1, od1, .func (PySem.W.fnOf "is_count" "is_count" (defArgs s_is_count) (defBody s_is_count) (defScope s_is_count) .none kV1 dc1 pm1 an1 cd1 ct1), sl1⟩)
    (c1 : PySem.W.codeIn K cd1 "is_count" = true)
    (k1 : PySem.W.keepIn K (.ref f1) = true)
    (a2 : PySem.W.nsIn K mainGlobals "is_index" = some (some (.ref f2)))
    (l2 : K.lookup f2 = some ⟨oc2, od2, .func (PySem.W.fnOf "is_index" "is_index" (defArgs s_is_index) (defBody s_is_index) (defScope s_is_index) .none kV2 dc2 pm2 an2 cd2 ct2), sl2⟩)
    (c2 : PySem.W.codeIn K cd2 "is_index" = true)
    (k2 : PySem.W.keepIn K (.ref f2) = true)
    (a3 : PySem.W.nsIn K mainGlobals "is_list" = some (some (.ref f3)))
    (l3 : K.lookup f3 = some ⟨oc3, od3, .func (PySem.W.fnOf "is_list" "is_list" (defArgs s_is_list) (defBody s_is_list) (defScope s_is_list) .none kV3 dc3 pm3 an3 cd3 ct3), sl3⟩)
    (c3 : PySem.W.codeIn K cd3 "is_list" = true)
    (k3 : PySem.W.keepIn K (.ref f3) = true)
    (a4 : PySem.W.nsIn K mainGlobals "is_tuple" = some (some (.ref f4)))
    (l4 : K.lookup f4 = some ⟨oc4, od4, .func (PySem.W.fnOf "is_tuple" "is_tuple" (defArgs s_is_tuple) (defBody s_is_tuple) (defScope s_is_tuple) .none kV4 dc4 pm4 an4 cd4 ct4), sl4⟩)
    (c4 : PySem.W.codeIn K cd4 "is_tuple" = true)
    (k4 : PySem.W.keepIn K (.ref f4) = true)
    (a5 : PySem.W.nsIn K mainGlobals "are_indices" = some (some (.ref f5)))
    (l5 : K.lookup f5 = some ⟨oc5, od5, .func (PySem.W.fnOf "are_indices" "are_indices" (defArgs s_are_indices) (defBody s_are_indices) (defScope s_are_indices) .none kV5 dc5 pm5 an5 cd5 ct5), sl5⟩)
    (c5 : PySem.W.codeIn K cd5 "are_indices" = true)
    (k5 : PySem.W.keepIn K (.ref f5) = true)
    (a6 : PySem.W.nsIn K mainGlobals "ascends" = some (some (.ref f6)))
    (l6 : K.lookup f6 = some ⟨oc6, od6, .func (PySem.W.fnOf "ascends" "ascends" (defArgs s_ascends) (defBody s_ascends) (defScope s_ascends) .none kV6 dc6 pm6 an6 cd6 ct6), sl6⟩)
    (c6 : PySem.W.codeIn K cd6 "ascends" = true)
    (k6 : PySem.W.keepIn K (.ref f6) = true)
    (a7 : PySem.W.nsIn K mainGlobals "is_lot" = some (some (.ref f7)))
    (l7 : K.lookup f7 = some ⟨oc7, od7, .func (PySem.W.fnOf "is_lot" "is_lot" (defArgs s_is_lot) (defBody s_is_lot) (defScope s_is_lot) .none kV7 dc7 pm7 an7 cd7 ct7), sl7⟩)
    (c7 : PySem.W.codeIn K cd7 "is_lot" = true)
    (k7 : PySem.W.keepIn K (.ref f7) = true)
    (a8 : PySem.W.nsIn K mainGlobals "lot_number" = some (some (.ref f8)))
    (l8 : K.lookup f8 = some ⟨oc8, od8, .func (PySem.W.fnOf "lot_number" "lot_number" (defArgs s_lot_number) (defBody s_lot_number) (defScope s_lot_number) .none kV8 dc8 pm8 an8 cd8 ct8), sl8⟩)
    (c8 : PySem.W.codeIn K cd8 "lot_number" = true)
    (k8 : PySem.W.keepIn K (.ref f8) = true)
    (a9 : PySem.W.nsIn K mainGlobals "lot_of" = some (some (.ref f9)))
    (l9 : K.lookup f9 = some ⟨oc9, od9, .func (PySem.W.fnOf "lot_of" "lot_of" (defArgs s_lot_of) (defBody s_lot_of) (defScope s_lot_of) .none kV9 dc9 pm9 an9 cd9 ct9), sl9⟩)
    (c9 : PySem.W.codeIn K cd9 "lot_of" = true)
    (k9 : PySem.W.keepIn K (.ref f9) = true)
    (a10 : PySem.W.nsIn K mainGlobals "is_asked_lot" = some (some (.ref f10)))
    (l10 : K.lookup f10 = some ⟨oc10, od10, .func (PySem.W.fnOf "is_asked_lot" "is_asked_lot" (defArgs s_is_asked_lot) (defBody s_is_asked_lot) (defScope s_is_asked_lot) .none kV10 dc10 pm10 an10 cd10 ct10), sl10⟩)
    (c10 : PySem.W.codeIn K cd10 "is_asked_lot" = true)
    (k10 : PySem.W.keepIn K (.ref f10) = true)
    (a11 : PySem.W.nsIn K mainGlobals "is_answer" = some (some (.ref f11)))
    (l11 : K.lookup f11 = some ⟨oc11, od11, .func (PySem.W.fnOf "is_answer" "is_answer" (defArgs s_is_answer) (defBody s_is_answer) (defScope s_is_answer) .none kV11 dc11 pm11 an11 cd11 ct11), sl11⟩)
    (c11 : PySem.W.codeIn K cd11 "is_answer" = true)
    (k11 : PySem.W.keepIn K (.ref f11) = true)
    (a12 : PySem.W.nsIn K mainGlobals "is_answers" = some (some (.ref f12)))
    (l12 : K.lookup f12 = some ⟨oc12, od12, .func (PySem.W.fnOf "is_answers" "is_answers" (defArgs s_is_answers) (defBody s_is_answers) (defScope s_is_answers) .none kV12 dc12 pm12 an12 cd12 ct12), sl12⟩)
    (c12 : PySem.W.codeIn K cd12 "is_answers" = true)
    (k12 : PySem.W.keepIn K (.ref f12) = true)
    (a13 : PySem.W.nsIn K mainGlobals "check_answers" = some (some (.ref f13)))
    (l13 : K.lookup f13 = some ⟨oc13, od13, .func (PySem.W.fnOf "check_answers" "check_answers" (defArgs s_check_answers) (defBody s_check_answers) (defScope s_check_answers) .none kV13 dc13 pm13 an13 cd13 ct13), sl13⟩)
    (c13 : PySem.W.codeIn K cd13 "check_answers" = true)
    (k13 : PySem.W.keepIn K (.ref f13) = true)
    (a14 : PySem.W.nsIn K mainGlobals "check_asked_lot" = some (some (.ref f14)))
    (l14 : K.lookup f14 = some ⟨oc14, od14, .func (PySem.W.fnOf "check_asked_lot" "check_asked_lot" (defArgs s_check_asked_lot) (defBody s_check_asked_lot) (defScope s_check_asked_lot) .none kV14 dc14 pm14 an14 cd14 ct14), sl14⟩)
    (c14 : PySem.W.codeIn K cd14 "check_asked_lot" = true)
    (k14 : PySem.W.keepIn K (.ref f14) = true)
    (a15 : PySem.W.nsIn K mainGlobals "bounds_of" = some (some (.ref f15)))
    (l15 : K.lookup f15 = some ⟨oc15, od15, .func (PySem.W.fnOf "bounds_of" "bounds_of" (defArgs s_bounds_of) (defBody s_bounds_of) (defScope s_bounds_of) .none kV15 dc15 pm15 an15 cd15 ct15), sl15⟩)
    (c15 : PySem.W.codeIn K cd15 "bounds_of" = true)
    (k15 : PySem.W.keepIn K (.ref f15) = true)
    (a16 : PySem.W.nsIn K mainGlobals "lesser" = some (some (.ref f16)))
    (l16 : K.lookup f16 = some ⟨oc16, od16, .func (PySem.W.fnOf "lesser" "lesser" (defArgs s_lesser) (defBody s_lesser) (defScope s_lesser) .none kV16 dc16 pm16 an16 cd16 ct16), sl16⟩)
    (c16 : PySem.W.codeIn K cd16 "lesser" = true)
    (k16 : PySem.W.keepIn K (.ref f16) = true)
    (a17 : PySem.W.nsIn K mainGlobals "tops" = some (some (.ref f17)))
    (l17 : K.lookup f17 = some ⟨oc17, od17, .func (PySem.W.fnOf "tops" "tops" (defArgs s_tops) (defBody s_tops) (defScope s_tops) .none kV17 dc17 pm17 an17 cd17 ct17), sl17⟩)
    (c17 : PySem.W.codeIn K cd17 "tops" = true)
    (k17 : PySem.W.keepIn K (.ref f17) = true)
    (a18 : PySem.W.nsIn K mainGlobals "fits" = some (some (.ref f18)))
    (l18 : K.lookup f18 = some ⟨oc18, od18, .func (PySem.W.fnOf "fits" "fits" (defArgs s_fits) (defBody s_fits) (defScope s_fits) .none kV18 dc18 pm18 an18 cd18 ct18), sl18⟩)
    (c18 : PySem.W.codeIn K cd18 "fits" = true)
    (k18 : PySem.W.keepIn K (.ref f18) = true)
    (a19 : PySem.W.nsIn K mainGlobals "lowest" = some (some (.ref f19)))
    (l19 : K.lookup f19 = some ⟨oc19, od19, .func (PySem.W.fnOf "lowest" "lowest" (defArgs s_lowest) (defBody s_lowest) (defScope s_lowest) .none kV19 dc19 pm19 an19 cd19 ct19), sl19⟩)
    (c19 : PySem.W.codeIn K cd19 "lowest" = true)
    (k19 : PySem.W.keepIn K (.ref f19) = true)
    (a20 : PySem.W.nsIn K mainGlobals "known" = some (some (.ref f20)))
    (l20 : K.lookup f20 = some ⟨oc20, od20, .func (PySem.W.fnOf "known" "known" (defArgs s_known) (defBody s_known) (defScope s_known) .none kV20 dc20 pm20 an20 cd20 ct20), sl20⟩)
    (c20 : PySem.W.codeIn K cd20 "known" = true)
    (k20 : PySem.W.keepIn K (.ref f20) = true)
    (a21 : PySem.W.nsIn K mainGlobals "possible" = some (some (.ref f21)))
    (l21 : K.lookup f21 = some ⟨oc21, od21, .func (PySem.W.fnOf "possible" "possible" (defArgs s_possible) (defBody s_possible) (defScope s_possible) .none kV21 dc21 pm21 an21 cd21 ct21), sl21⟩)
    (c21 : PySem.W.codeIn K cd21 "possible" = true)
    (k21 : PySem.W.keepIn K (.ref f21) = true)
    (a22 : PySem.W.nsIn K mainGlobals "between" = some (some (.ref f22)))
    (l22 : K.lookup f22 = some ⟨oc22, od22, .func (PySem.W.fnOf "between" "between" (defArgs s_between) (defBody s_between) (defScope s_between) .none kV22 dc22 pm22 an22 cd22 ct22), sl22⟩)
    (c22 : PySem.W.codeIn K cd22 "between" = true)
    (k22 : PySem.W.keepIn K (.ref f22) = true)
    (a23 : PySem.W.nsIn K mainGlobals "open_lots" = some (some (.ref f23)))
    (l23 : K.lookup f23 = some ⟨oc23, od23, .func (PySem.W.fnOf "open_lots" "open_lots" (defArgs s_open_lots) (defBody s_open_lots) (defScope s_open_lots) .none kV23 dc23 pm23 an23 cd23 ct23), sl23⟩)
    (c23 : PySem.W.codeIn K cd23 "open_lots" = true)
    (k23 : PySem.W.keepIn K (.ref f23) = true)
    (a24 : PySem.W.nsIn K mainGlobals "_law_cell" = some (some (.ref f24)))
    (l24 : K.lookup f24 = some ⟨oc24, od24, .func (PySem.W.fnOf "_law_cell" "_law_cell" (defArgs s__law_cell) (defBody s__law_cell) (defScope s__law_cell) .none kV24 dc24 pm24 an24 cd24 ct24), sl24⟩)
    (c24 : PySem.W.codeIn K cd24 "_law_cell" = true)
    (k24 : PySem.W.keepIn K (.ref f24) = true)
    (a25 : PySem.W.nsIn K mainGlobals "_law_box" = some (some (.ref f25)))
    (l25 : K.lookup f25 = some ⟨oc25, od25, .func (PySem.W.fnOf "_law_box" "_law_box" (defArgs s__law_box) (defBody s__law_box) (defScope s__law_box) .none kV25 dc25 pm25 an25 cd25 ct25), sl25⟩)
    (c25 : PySem.W.codeIn K cd25 "_law_box" = true)
    (k25 : PySem.W.keepIn K (.ref f25) = true)
    (a26 : PySem.W.nsIn K mainGlobals "_law_take" = some (some (.ref f26)))
    (l26 : K.lookup f26 = some ⟨oc26, od26, .func (PySem.W.fnOf "_law_take" "_law_take" (defArgs s__law_take) (defBody s__law_take) (defScope s__law_take) .none kV26 dc26 pm26 an26 cd26 ct26), sl26⟩)
    (c26 : PySem.W.codeIn K cd26 "_law_take" = true)
    (k26 : PySem.W.keepIn K (.ref f26) = true)
    (a27 : PySem.W.nsIn K mainGlobals "_law_mixed" = some (some (.ref f27)))
    (l27 : K.lookup f27 = some ⟨oc27, od27, .func (PySem.W.fnOf "_law_mixed" "_law_mixed" (defArgs s__law_mixed) (defBody s__law_mixed) (defScope s__law_mixed) .none kV27 dc27 pm27 an27 cd27 ct27), sl27⟩)
    (c27 : PySem.W.codeIn K cd27 "_law_mixed" = true)
    (k27 : PySem.W.keepIn K (.ref f27) = true)
    (a28 : PySem.W.nsIn K mainGlobals "_law_same" = some (some (.ref f28)))
    (l28 : K.lookup f28 = some ⟨oc28, od28, .func (PySem.W.fnOf "_law_same" "_law_same" (defArgs s__law_same) (defBody s__law_same) (defScope s__law_same) .none kV28 dc28 pm28 an28 cd28 ct28), sl28⟩)
    (c28 : PySem.W.codeIn K cd28 "_law_same" = true)
    (k28 : PySem.W.keepIn K (.ref f28) = true)
    (a29 : PySem.W.nsIn K mainGlobals "_law_cut" = some (some (.ref f29)))
    (l29 : K.lookup f29 = some ⟨oc29, od29, .func (PySem.W.fnOf "_law_cut" "_law_cut" (defArgs s__law_cut) (defBody s__law_cut) (defScope s__law_cut) .none kV29 dc29 pm29 an29 cd29 ct29), sl29⟩)
    (c29 : PySem.W.codeIn K cd29 "_law_cut" = true)
    (k29 : PySem.W.keepIn K (.ref f29) = true)
    (a30 : PySem.W.nsIn K mainGlobals "_law_least_cut" = some (some (.ref f30)))
    (l30 : K.lookup f30 = some ⟨oc30, od30, .func (PySem.W.fnOf "_law_least_cut" "_law_least_cut" (defArgs s__law_least_cut) (defBody s__law_least_cut) (defScope s__law_least_cut) .none kV30 dc30 pm30 an30 cd30 ct30), sl30⟩)
    (c30 : PySem.W.codeIn K cd30 "_law_least_cut" = true)
    (k30 : PySem.W.keepIn K (.ref f30) = true)
    (a31 : PySem.W.nsIn K mainGlobals "_law_lots" = some (some (.ref f31)))
    (l31 : K.lookup f31 = some ⟨oc31, od31, .func (PySem.W.fnOf "_law_lots" "_law_lots" (defArgs s__law_lots) (defBody s__law_lots) (defScope s__law_lots) .none kV31 dc31 pm31 an31 cd31 ct31), sl31⟩)
    (c31 : PySem.W.codeIn K cd31 "_law_lots" = true)
    (k31 : PySem.W.keepIn K (.ref f31) = true)
    (a32 : PySem.W.nsIn K mainGlobals "_law_table" = some (some (.ref f32)))
    (l32 : K.lookup f32 = some ⟨oc32, od32, .func (PySem.W.fnOf "_law_table" "_law_table" (defArgs s__law_table) (defBody s__law_table) (defScope s__law_table) .none kV32 dc32 pm32 an32 cd32 ct32), sl32⟩)
    (c32 : PySem.W.codeIn K cd32 "_law_table" = true)
    (k32 : PySem.W.keepIn K (.ref f32) = true)
    (a33 : PySem.W.nsIn K mainGlobals "_law_ties" = some (some (.ref f33)))
    (l33 : K.lookup f33 = some ⟨oc33, od33, .func (PySem.W.fnOf "_law_ties" "_law_ties" (defArgs s__law_ties) (defBody s__law_ties) (defScope s__law_ties) .none kV33 dc33 pm33 an33 cd33 ct33), sl33⟩)
    (c33 : PySem.W.codeIn K cd33 "_law_ties" = true)
    (k33 : PySem.W.keepIn K (.ref f33) = true)
    (a34 : PySem.W.nsIn K mainGlobals "_law_part" = some (some (.ref f34)))
    (l34 : K.lookup f34 = some ⟨oc34, od34, .func (PySem.W.fnOf "_law_part" "_law_part" (defArgs s__law_part) (defBody s__law_part) (defScope s__law_part) .none kV34 dc34 pm34 an34 cd34 ct34), sl34⟩)
    (c34 : PySem.W.codeIn K cd34 "_law_part" = true)
    (k34 : PySem.W.keepIn K (.ref f34) = true)
    (a35 : PySem.W.nsIn K mainGlobals "_law_lots_of" = some (some (.ref f35)))
    (l35 : K.lookup f35 = some ⟨oc35, od35, .func (PySem.W.fnOf "_law_lots_of" "_law_lots_of" (defArgs s__law_lots_of) (defBody s__law_lots_of) (defScope s__law_lots_of) .none kV35 dc35 pm35 an35 cd35 ct35), sl35⟩)
    (c35 : PySem.W.codeIn K cd35 "_law_lots_of" = true)
    (k35 : PySem.W.keepIn K (.ref f35) = true)
    (a36 : PySem.W.nsIn K mainGlobals "_law_sentences" = some (some (.ref f36)))
    (l36 : K.lookup f36 = some ⟨oc36, od36, .func (PySem.W.fnOf "_law_sentences" "_law_sentences" (defArgs s__law_sentences) (defBody s__law_sentences) (defScope s__law_sentences) .none kV36 dc36 pm36 an36 cd36 ct36), sl36⟩)
    (c36 : PySem.W.codeIn K cd36 "_law_sentences" = true)
    (k36 : PySem.W.keepIn K (.ref f36) = true)
    (a37 : PySem.W.nsIn K mainGlobals "_law_tops" = some (some (.ref f37)))
    (l37 : K.lookup f37 = some ⟨oc37, od37, .func (PySem.W.fnOf "_law_tops" "_law_tops" (defArgs s__law_tops) (defBody s__law_tops) (defScope s__law_tops) .none kV37 dc37 pm37 an37 cd37 ct37), sl37⟩)
    (c37 : PySem.W.codeIn K cd37 "_law_tops" = true)
    (k37 : PySem.W.keepIn K (.ref f37) = true)
    (a38 : PySem.W.nsIn K mainGlobals "_law_possible" = some (some (.ref f38)))
    (l38 : K.lookup f38 = some ⟨oc38, od38, .func (PySem.W.fnOf "_law_possible" "_law_possible" (defArgs s__law_possible) (defBody s__law_possible) (defScope s__law_possible) .none kV38 dc38 pm38 an38 cd38 ct38), sl38⟩)
    (c38 : PySem.W.codeIn K cd38 "_law_possible" = true)
    (k38 : PySem.W.keepIn K (.ref f38) = true)
    (a39 : PySem.W.nsIn K mainGlobals "_law_put" = some (some (.ref f39)))
    (l39 : K.lookup f39 = some ⟨oc39, od39, .func (PySem.W.fnOf "_law_put" "_law_put" (defArgs s__law_put) (defBody s__law_put) (defScope s__law_put) .none kV39 dc39 pm39 an39 cd39 ct39), sl39⟩)
    (c39 : PySem.W.codeIn K cd39 "_law_put" = true)
    (k39 : PySem.W.keepIn K (.ref f39) = true)
    (a40 : PySem.W.nsIn K mainGlobals "_law_between" = some (some (.ref f40)))
    (l40 : K.lookup f40 = some ⟨oc40, od40, .func (PySem.W.fnOf "_law_between" "_law_between" (defArgs s__law_between) (defBody s__law_between) (defScope s__law_between) .none kV40 dc40 pm40 an40 cd40 ct40), sl40⟩)
    (c40 : PySem.W.codeIn K cd40 "_law_between" = true)
    (k40 : PySem.W.keepIn K (.ref f40) = true)
    (a41 : PySem.W.nsIn K mainGlobals "_law_answers" = some (some (.ref f41)))
    (l41 : K.lookup f41 = some ⟨oc41, od41, .func (PySem.W.fnOf "_law_answers" "_law_answers" (defArgs s__law_answers) (defBody s__law_answers) (defScope s__law_answers) .none kV41 dc41 pm41 an41 cd41 ct41), sl41⟩)
    (c41 : PySem.W.codeIn K cd41 "_law_answers" = true)
    (k41 : PySem.W.keepIn K (.ref f41) = true)
    (a42 : PySem.W.nsIn K mainGlobals "_law_great" = some (some (.ref f42)))
    (l42 : K.lookup f42 = some ⟨oc42, od42, .func (PySem.W.fnOf "_law_great" "_law_great" (defArgs s__law_great) (defBody s__law_great) (defScope s__law_great) .none kV42 dc42 pm42 an42 cd42 ct42), sl42⟩)
    (c42 : PySem.W.codeIn K cd42 "_law_great" = true)
    (k42 : PySem.W.keepIn K (.ref f42) = true)
    (a43 : PySem.W.nsIn K mainGlobals "_law_copy" = some (some (.ref f43)))
    (l43 : K.lookup f43 = some ⟨oc43, od43, .func (PySem.W.fnOf "_law_copy" "_law_copy" (defArgs s__law_copy) (defBody s__law_copy) (defScope s__law_copy) .none kV43 dc43 pm43 an43 cd43 ct43), sl43⟩)
    (c43 : PySem.W.codeIn K cd43 "_law_copy" = true)
    (k43 : PySem.W.keepIn K (.ref f43) = true)
    (a44 : PySem.W.nsIn K mainGlobals "_law_asked" = some (some (.ref f44)))
    (l44 : K.lookup f44 = some ⟨oc44, od44, .func (PySem.W.fnOf "_law_asked" "_law_asked" (defArgs s__law_asked) (defBody s__law_asked) (defScope s__law_asked) .none kV44 dc44 pm44 an44 cd44 ct44), sl44⟩)
    (c44 : PySem.W.codeIn K cd44 "_law_asked" = true)
    (k44 : PySem.W.keepIn K (.ref f44) = true)
    (a45 : PySem.W.nsIn K mainGlobals "_law_answers_right" = some (some (.ref f45)))
    (l45 : K.lookup f45 = some ⟨oc45, od45, .func (PySem.W.fnOf "_law_answers_right" "_law_answers_right" (defArgs s__law_answers_right) (defBody s__law_answers_right) (defScope s__law_answers_right) .none kV45 dc45 pm45 an45 cd45 ct45), sl45⟩)
    (c45 : PySem.W.codeIn K cd45 "_law_answers_right" = true)
    (k45 : PySem.W.keepIn K (.ref f45) = true)
    (a46 : PySem.W.nsIn K mainGlobals "_law_refused_right" = some (some (.ref f46)))
    (l46 : K.lookup f46 = some ⟨oc46, od46, .func (PySem.W.fnOf "_law_refused_right" "_law_refused_right" (defArgs s__law_refused_right) (defBody s__law_refused_right) (defScope s__law_refused_right) .none kV46 dc46 pm46 an46 cd46 ct46), sl46⟩)
    (c46 : PySem.W.codeIn K cd46 "_law_refused_right" = true)
    (k46 : PySem.W.keepIn K (.ref f46) = true)
    (a47 : PySem.W.nsIn K mainGlobals "law" = some (some (.ref f47)))
    (l47 : K.lookup f47 = some ⟨oc47, od47, .func (PySem.W.fnOf "law" "law" (defArgs s_law) (defBody s_law) (defScope s_law) .none kV47 dc47 pm47 an47 cd47 ct47), sl47⟩)
    (c47 : PySem.W.codeIn K cd47 "law" = true)
    (k47 : PySem.W.keepIn K (.ref f47) = true)
    (b_isinstance : PySem.W.nsIn K mainGlobals "isinstance" = some none)
    (b_int : PySem.W.nsIn K mainGlobals "int" = some none)
    (b_bool : PySem.W.nsIn K mainGlobals "bool" = some none)
    (b_list : PySem.W.nsIn K mainGlobals "list" = some none)
    (b_tuple : PySem.W.nsIn K mainGlobals "tuple" = some none)
    (b_str : PySem.W.nsIn K mainGlobals "str" = some none)
    (b_all : PySem.W.nsIn K mainGlobals "all" = some none)
    (b_set : PySem.W.nsIn K mainGlobals "set" = some none)
    (b_len : PySem.W.nsIn K mainGlobals "len" = some none)
    (b_range : PySem.W.nsIn K mainGlobals "range" = some none)
    (b_sum : PySem.W.nsIn K mainGlobals "sum" = some none)
    (b_sorted : PySem.W.nsIn K mainGlobals "sorted" = some none)
    (b_min : PySem.W.nsIn K mainGlobals "min" = some none)
    (b_max : PySem.W.nsIn K mainGlobals "max" = some none)
    (b_abs : PySem.W.nsIn K mainGlobals "abs" = some none)
    (b_dict : PySem.W.nsIn K mainGlobals "dict" = some none)
    (b_repr : PySem.W.nsIn K mainGlobals "repr" = some none)
    (pP : PySem.W.nsIn K mainGlobals "POSTS" = some (some (.int 3 tP)))
    (aS : PySem.W.nsIn K mainGlobals "SIDES" = some (some (.ref dS)))
    (lS : K.lookup dS = some ⟨.type "dict", none, .dict #[⟨h0_, .int 1 t0_, .ref v0_⟩, ⟨h1_, .int 2 t1_, .ref v1_⟩, ⟨h2_, .int 3 t2_, .ref v2_⟩, ⟨h3_, .int 4 t3_, .ref v3_⟩, ⟨h4_, .int 5 t4_, .ref v4_⟩, ⟨h5_, .int 6 t5_, .ref v5_⟩] epS, #[]⟩)
    (lT0 : K.lookup v0_ = some ⟨.type "tuple", dd0_, .seq #[.int 3 u0_, .int 5 w0_] n0_, sl0_⟩)
    (lT1 : K.lookup v1_ = some ⟨.type "tuple", dd1_, .seq #[.int 3 u1_, .int 6 w1_] n1_, sl1_⟩)
    (lT2 : K.lookup v2_ = some ⟨.type "tuple", dd2_, .seq #[.int 1 u2_, .int 2 w2_] n2_, sl2_⟩)
    (lT3 : K.lookup v3_ = some ⟨.type "tuple", dd3_, .seq #[.int 5 u3_, .int 6 w3_] n3_, sl3_⟩)
    (lT4 : K.lookup v4_ = some ⟨.type "tuple", dd4_, .seq #[.int 1 u4_, .int 4 w4_] n4_, sl4_⟩)
    (lT5 : K.lookup v5_ = some ⟨.type "tuple", dd5_, .seq #[.int 2 u5_, .int 4 w5_] n5_, sl5_⟩)
    (zS : (dS == sysModules) = false)
    (aA : PySem.W.nsIn K mainGlobals "InvalidAnswers" = some (some (.ref CA)))
    (xA : K.lookup CA = some (excClassObj nmA qA CA NA bsA bmA true snA subA abA colA ddA m0A m1A m2A m3A m5A "ValueError.__new__"))
    (rA : PySem.HandSPX.refsVE bmA = true)
    (sA : PySem.W.findIn K (.ref CA) "__setattr__" = some (some (.builtin "object.__setattr__")))
    (eA : PySem.W.subIn K (.ref CA) (.type "BaseException") = some true)
    (yA : PySem.W.typeIn K (.ref CA) = some (.type "type"))
    (kA : PySem.W.keepIn K (.ref CA) = true)
    (jA : PySem.W.findIn K (.ref CA) "__init__" = some (some (.ref iA)))
    (tA : PySem.W.typeIn K (.ref iA) = some (.type "function"))
    (nA : PySem.W.findIn K (.ref CA) "given" = some none)
    (gA : PySem.W.findIn K (.ref CA) "__getattribute__" = some (some (.builtin "BaseException.__getattribute__")))
    (oA : PySem.W.findIn K (.ref CA) "__getattr__" = some none)
    (dA : PySem.W.hasDictIn K CA = true)
    (qA : PySem.W.isClsIn K CA = true)
    (liA : K.lookup iA = some ⟨ocA, odA, .func (PySem.W.fnOf "__init__" "InvalidAnswers.__init__" (defArgs (clsS 3 0)) (defBody (clsS 3 0)) (defScope (clsS 3 0)) .none kVA dcA pmA anA cdA ctA), slA⟩)
    (ciA : PySem.W.codeIn K cdA "InvalidAnswers.__init__" = true)
    (kiA : PySem.W.keepIn K (.ref iA) = true)
    (aL : PySem.W.nsIn K mainGlobals "InvalidLot" = some (some (.ref CL)))
    (xL : K.lookup CL = some (excClassObj nmL qL CL NL bsL bmL true snL subL abL colL ddL m0L m1L m2L m3L m5L "ValueError.__new__"))
    (rL : PySem.HandSPX.refsVE bmL = true)
    (sL : PySem.W.findIn K (.ref CL) "__setattr__" = some (some (.builtin "object.__setattr__")))
    (eL : PySem.W.subIn K (.ref CL) (.type "BaseException") = some true)
    (yL : PySem.W.typeIn K (.ref CL) = some (.type "type"))
    (kL : PySem.W.keepIn K (.ref CL) = true)
    (jL : PySem.W.findIn K (.ref CL) "__init__" = some (some (.ref iL)))
    (tL : PySem.W.typeIn K (.ref iL) = some (.type "function"))
    (nL : PySem.W.findIn K (.ref CL) "given" = some none)
    (gL : PySem.W.findIn K (.ref CL) "__getattribute__" = some (some (.builtin "BaseException.__getattribute__")))
    (oL : PySem.W.findIn K (.ref CL) "__getattr__" = some none)
    (dL : PySem.W.hasDictIn K CL = true)
    (qL : PySem.W.isClsIn K CL = true)
    (liL : K.lookup iL = some ⟨ocL, odL, .func (PySem.W.fnOf "__init__" "InvalidLot.__init__" (defArgs (clsS 2 0)) (defBody (clsS 2 0)) (defScope (clsS 2 0)) .none kVL dcL pmL anL cdL ctL), slL⟩)
    (ciL : PySem.W.codeIn K cdL "InvalidLot.__init__" = true)
    (kiL : PySem.W.keepIn K (.ref iL) = true)
    (uAA : PySem.W.subIn K (.ref CA) (.ref CA) = some true)
    (uLA : PySem.W.subIn K (.ref CL) (.ref CA) = some false)
    (uLL : PySem.W.subIn K (.ref CL) (.ref CL) = some true)
    (aR : PySem.W.nsIn K mainGlobals "RoadError" = some (some (.ref R)))
    (rR : PySem.W.readsIn K R (.type "type") = true)
    (gR : PySem.W.specialIn K (.ref R) "__getattribute__" = some (some (.builtin "type.__getattribute__")))
    (fR : PySem.W.findCls K (.ref R) (.type "type") "__init__" = some (.val (.builtin "ValueError.__init__"))) :
    ∃ fd : FuncData, (∀ (s : Shared) (v : Value), BindsTo s fd ⟨[v], []⟩ [("script", v)]) ∧ ∀ base : Heap, K.In base → base.Ns mainGlobals mg → FnG (PySem.Challenge.rw_cutpatch_k81_whole_possible_and_between).prog w K mg base CX0 13 fa fd ["script"] (p_law K) := by
  have e := hfa.symm.trans (PySem.W.mg_of X G a47)
  cases e
  have FA := fun_mk (st := clsS 3 0) liA ciA kiA
  have FL := fun_mk (st := clsS 2 0) liL ciL kiL
  have F := fun_mk (st := s_law) l47 c47 k47
  have T : Txt81 K mg := {
    is_integer := topE_mk X G (fun _ _ _ _ _ _ us hl => match us, hl with | [_], _ => rfl) a0 l0 c0 k0
    is_count := topE_mk X G (fun _ _ _ _ _ _ us hl => match us, hl with | [_], _ => rfl) a1 l1 c1 k1
    is_index := topE_mk X G (fun _ _ _ _ _ _ us hl => match us, hl with | [_, _], _ => rfl) a2 l2 c2 k2
    is_list := topE_mk X G (fun _ _ _ _ _ _ us hl => match us, hl with | [_], _ => rfl) a3 l3 c3 k3
    is_tuple := topE_mk X G (fun _ _ _ _ _ _ us hl => match us, hl with | [_, _], _ => rfl) a4 l4 c4 k4
    are_indices := topE_mk X G (fun _ _ _ _ _ _ us hl => match us, hl with | [_, _], _ => rfl) a5 l5 c5 k5
    ascends := topE_mk X G (fun _ _ _ _ _ _ us hl => match us, hl with | [_], _ => rfl) a6 l6 c6 k6
    is_lot := topE_mk X G (fun _ _ _ _ _ _ us hl => match us, hl with | [_, _], _ => rfl) a7 l7 c7 k7
    lot_number := topE_mk X G (fun _ _ _ _ _ _ us hl => match us, hl with | [_], _ => rfl) a8 l8 c8 k8
    lot_of := topE_mk X G (fun _ _ _ _ _ _ us hl => match us, hl with | [_, _], _ => rfl) a9 l9 c9 k9
    is_asked_lot := topE_mk X G (fun _ _ _ _ _ _ us hl => match us, hl with | [_], _ => rfl) a10 l10 c10 k10
    is_answer := topE_mk X G (fun _ _ _ _ _ _ us hl => match us, hl with | [_], _ => rfl) a11 l11 c11 k11
    is_answers := topE_mk X G (fun _ _ _ _ _ _ us hl => match us, hl with | [_], _ => rfl) a12 l12 c12 k12
    check_answers := topE_mk X G (fun _ _ _ _ _ _ us hl => match us, hl with | [_], _ => rfl) a13 l13 c13 k13
    check_asked_lot := topE_mk X G (fun _ _ _ _ _ _ us hl => match us, hl with | [_], _ => rfl) a14 l14 c14 k14
    bounds_of := topE_mk X G (fun _ _ _ _ _ _ us hl => match us, hl with | [_], _ => rfl) a15 l15 c15 k15
    lesser := topE_mk X G (fun _ _ _ _ _ _ us hl => match us, hl with | [_, _], _ => rfl) a16 l16 c16 k16
    tops := topE_mk X G (fun _ _ _ _ _ _ us hl => match us, hl with | [_], _ => rfl) a17 l17 c17 k17
    fits := topE_mk X G (fun _ _ _ _ _ _ us hl => match us, hl with | [_], _ => rfl) a18 l18 c18 k18
    lowest := topE_mk X G (fun _ _ _ _ _ _ us hl => match us, hl with | [_, _], _ => rfl) a19 l19 c19 k19
    known := topE_mk X G (fun _ _ _ _ _ _ us hl => match us, hl with | [_], _ => rfl) a20 l20 c20 k20
    possible := topE_mk X G (fun _ _ _ _ _ _ us hl => match us, hl with | [_], _ => rfl) a21 l21 c21 k21
    between := topE_mk X G (fun _ _ _ _ _ _ us hl => match us, hl with | [_, _], _ => rfl) a22 l22 c22 k22
    open_lots := topE_mk X G (fun _ _ _ _ _ _ us hl => match us, hl with | [_], _ => rfl) a23 l23 c23 k23
    _law_cell := topE_mk X G (fun _ _ _ _ _ _ us hl => match us, hl with | [_, _], _ => rfl) a24 l24 c24 k24
    _law_box := topE_mk X G (fun _ _ _ _ _ _ us hl => match us, hl with | [_], _ => rfl) a25 l25 c25 k25
    _law_take := topE_mk X G (fun _ _ _ _ _ _ us hl => match us, hl with | [_, _], _ => rfl) a26 l26 c26 k26
    _law_mixed := topE_mk X G (fun _ _ _ _ _ _ us hl => match us, hl with | [_, _], _ => rfl) a27 l27 c27 k27
    _law_same := topE_mk X G (fun _ _ _ _ _ _ us hl => match us, hl with | [_, _], _ => rfl) a28 l28 c28 k28
    _law_cut := topE_mk X G (fun _ _ _ _ _ _ us hl => match us, hl with | [_, _], _ => rfl) a29 l29 c29 k29
    _law_least_cut := topE_mk X G (fun _ _ _ _ _ _ us hl => match us, hl with | [_, _], _ => rfl) a30 l30 c30 k30
    _law_lots := topE_mk X G (fun _ _ _ _ _ _ us hl => match us, hl with | [_], _ => rfl) a31 l31 c31 k31
    _law_table := topE_mk X G (fun _ _ _ _ _ _ us hl => match us, hl with | [_], _ => rfl) a32 l32 c32 k32
    _law_ties := topE_mk X G (fun _ _ _ _ _ _ us hl => match us, hl with | [_, _, _, _, _], _ => rfl) a33 l33 c33 k33
    _law_part := topE_mk X G (fun _ _ _ _ _ _ us hl => match us, hl with | [_, _], _ => rfl) a34 l34 c34 k34
    _law_lots_of := topE_mk X G (fun _ _ _ _ _ _ us hl => match us, hl with | [], _ => rfl) a35 l35 c35 k35
    _law_sentences := topE_mk X G (fun _ _ _ _ _ _ us hl => match us, hl with | [], _ => rfl) a36 l36 c36 k36
    _law_tops := topE_mk X G (fun _ _ _ _ _ _ us hl => match us, hl with | [_], _ => rfl) a37 l37 c37 k37
    _law_possible := topE_mk X G (fun _ _ _ _ _ _ us hl => match us, hl with | [_], _ => rfl) a38 l38 c38 k38
    _law_put := topE_mk X G (fun _ _ _ _ _ _ us hl => match us, hl with | [_, _, _, _], _ => rfl) a39 l39 c39 k39
    _law_between := topE_mk X G (fun _ _ _ _ _ _ us hl => match us, hl with | [_, _], _ => rfl) a40 l40 c40 k40
    _law_answers := topE_mk X G (fun _ _ _ _ _ _ us hl => match us, hl with | [_, _], _ => rfl) a41 l41 c41 k41
    _law_great := topE_mk X G (fun _ _ _ _ _ _ us hl => match us, hl with | [_, _], _ => rfl) a42 l42 c42 k42
    _law_copy := topE_mk X G (fun _ _ _ _ _ _ us hl => match us, hl with | [_], _ => rfl) a43 l43 c43 k43
    _law_asked := topE_mk X G (fun _ _ _ _ _ _ us hl => match us, hl with | [_, _, _], _ => rfl) a44 l44 c44 k44
    _law_answers_right := topE_mk X G (fun _ _ _ _ _ _ us hl => match us, hl with | [_, _], _ => rfl) a45 l45 c45 k45
    _law_refused_right := topE_mk X G (fun _ _ _ _ _ _ us hl => match us, hl with | [_], _ => rfl) a46 l46 c46 k46
    bi := ⟨PySem.W.mg_none_of X G b_isinstance, PySem.W.mg_none_of X G b_int, PySem.W.mg_none_of X G b_bool, PySem.W.mg_none_of X G b_list, PySem.W.mg_none_of X G b_tuple, PySem.W.mg_none_of X G b_str, PySem.W.mg_none_of X G b_all, PySem.W.mg_none_of X G b_set, PySem.W.mg_none_of X G b_len, PySem.W.mg_none_of X G b_range, PySem.W.mg_none_of X G b_sum, PySem.W.mg_none_of X G b_sorted, PySem.W.mg_none_of X G b_min, PySem.W.mg_none_of X G b_max, PySem.W.mg_none_of X G b_abs, PySem.W.mg_none_of X G b_dict, PySem.W.mg_none_of X G b_repr⟩
    sides := by
      refine ⟨dS, [(1, .ref v0_), (2, .ref v1_), (3, .ref v2_), (4, .ref v3_), (5, .ref v4_), (6, .ref v5_)], _, _, _, PySem.W.mg_of X G aS, ⟨zS, lS, ⟨rfl, rfl, rfl⟩, rfl, rfl, fun i k v e => ?_⟩, rfl, fun i k v e => ?_⟩
      · match i, e with
        | 0, e => cases e; exact ⟨_, rfl, ⟨_, rfl⟩, rfl⟩
        | 1, e => cases e; exact ⟨_, rfl, ⟨_, rfl⟩, rfl⟩
        | 2, e => cases e; exact ⟨_, rfl, ⟨_, rfl⟩, rfl⟩
        | 3, e => cases e; exact ⟨_, rfl, ⟨_, rfl⟩, rfl⟩
        | 4, e => cases e; exact ⟨_, rfl, ⟨_, rfl⟩, rfl⟩
        | 5, e => cases e; exact ⟨_, rfl, ⟨_, rfl⟩, rfl⟩
        | _ + 6, e => cases e
      · match i, e with
        | 0, e => cases e; exact ⟨_, rfl, side_val lT0⟩
        | 1, e => cases e; exact ⟨_, rfl, side_val lT1⟩
        | 2, e => cases e; exact ⟨_, rfl, side_val lT2⟩
        | 3, e => cases e; exact ⟨_, rfl, side_val lT3⟩
        | 4, e => cases e; exact ⟨_, rfl, side_val lT4⟩
        | 5, e => cases e; exact ⟨_, rfl, side_val lT5⟩
        | _ + 6, e => cases e
    posts := ⟨tP, PySem.W.mg_of X G pP⟩
    err := ⟨CA, iA, CL, iL, R, .type "type", _, _, ⟨PySem.W.mg_of X G aA, ⟨⟨_, _, _, _, _, _, _, _, _, _, _, _, _, _, _, xA, rA⟩, sA, eA, yA, kA⟩, jA, tA, nA, ⟨gA, oA, eA, dA⟩⟩, ⟨PySem.W.mg_of X G aL, ⟨⟨_, _, _, _, _, _, _, _, _, _, _, _, _, _, _, xL, rL⟩, sL, eL, yL, kL⟩, jL, tL, nL, ⟨gL, oL, eL, dL⟩⟩, ⟨PySem.W.mg_of X G aR, ⟨rR, gR⟩, fR⟩, FA, FL, FA.binds (fun _ _ _ _ _ _ us hl => match us, hl with | [_, _], _ => rfl), FL.binds (fun _ _ _ _ _ _ us hl => match us, hl with | [_, _], _ => rfl),
      exm_mk eA qA yA uAA, exm_mk eA qA yA uLA, exm_mk eL qL yL uLL⟩ }
  exact ⟨_, fun s v => .of_eq rfl, fun base _ _ => law_ok T ⟨PySem.W.mg_of X G a47, F, F.binds fun _ _ _ _ _ _ us hl => match us, hl with | [_], _ => rfl⟩⟩
end Cp
open PySem PySem.W PyProof.Rows
set_option maxRecDepth 100000 in
set_option maxHeartbeats 0 in
theorem PySem.Challenge.cw_cutpatch_k81_whole_possible_and_between_holds : PySem.Challenge.rw_cutpatch_k81_whole_possible_and_between.Holds := by
  w_on; o_law; k_head; (case hw => w_witness2)
  k_fill
  refine Cp.walkG (l := PySem.Challenge.rw_cutpatch_k81_whole_possible_and_between) (n := 63) (k := 13) (x := "script") (CX := L2.CX0) (sp := fun K => Cp.p_law K) rfl (by decide) rfl ⟨rfl, by decide, by decide⟩ (fun w h Y => PySem.W.kIn_of Y) ?F (fun K H a ns hl hS => ?S) (fun _ _ _ _ h => h)
  case S => exact ⟨H, [.sq (ns.map .int)], fun d => d = .bl true, L2.Same.refl H, ⟨_, [], rfl, ⟨a, ns.map L2.V.int, rfl, hS, Cp.DaL.ints ns⟩, rfl⟩, rfl, ⟨ns, rfl, hl, rfl⟩, fun d e v G' H' _ D => by subst e; exact D⟩
  case F =>
    intro w mg fa h KX G hmg
    refine' Cp.all_mk KX G hmg ?a0 ?l0 ?c0 ?k0 ?a1 ?l1 ?c1 ?k1 ?a2 ?l2 ?c2 ?k2 ?a3 ?l3 ?c3 ?k3 ?a4 ?l4 ?c4 ?k4 ?a5 ?l5 ?c5 ?k5 ?a6 ?l6 ?c6 ?k6 ?a7 ?l7 ?c7 ?k7 ?a8 ?l8 ?c8 ?k8 ?a9 ?l9 ?c9 ?k9 ?a10 ?l10 ?c10 ?k10 ?a11 ?l11 ?c11 ?k11 ?a12 ?l12 ?c12 ?k12 ?a13 ?l13 ?c13 ?k13 ?a14 ?l14 ?c14 ?k14 ?a15 ?l15 ?c15 ?k15 ?a16 ?l16 ?c16 ?k16 ?a17 ?l17 ?c17 ?k17 ?a18 ?l18 ?c18 ?k18 ?a19 ?l19 ?c19 ?k19 ?a20 ?l20 ?c20 ?k20 ?a21 ?l21 ?c21 ?k21 ?a22 ?l22 ?c22 ?k22 ?a23 ?l23 ?c23 ?k23 ?a24 ?l24 ?c24 ?k24 ?a25 ?l25 ?c25 ?k25 ?a26 ?l26 ?c26 ?k26 ?a27 ?l27 ?c27 ?k27 ?a28 ?l28 ?c28 ?k28 ?a29 ?l29 ?c29 ?k29 ?a30 ?l30 ?c30 ?k30 ?a31 ?l31 ?c31 ?k31 ?a32 ?l32 ?c32 ?k32 ?a33 ?l33 ?c33 ?k33 ?a34 ?l34 ?c34 ?k34 ?a35 ?l35 ?c35 ?k35 ?a36 ?l36 ?c36 ?k36 ?a37 ?l37 ?c37 ?k37 ?a38 ?l38 ?c38 ?k38 ?a39 ?l39 ?c39 ?k39 ?a40 ?l40 ?c40 ?k40 ?a41 ?l41 ?c41 ?k41 ?a42 ?l42 ?c42 ?k42 ?a43 ?l43 ?c43 ?k43 ?a44 ?l44 ?c44 ?k44 ?a45 ?l45 ?c45 ?k45 ?a46 ?l46 ?c46 ?k46 ?a47 ?l47 ?c47 ?k47 ?b_isinstance ?b_int ?b_bool ?b_list ?b_tuple ?b_str ?b_all ?b_set ?b_len ?b_range ?b_sum ?b_sorted ?b_min ?b_max ?b_abs ?b_dict ?b_repr ?pP ?aS ?lS ?lT0 ?lT1 ?lT2 ?lT3 ?lT4 ?lT5 ?zS ?aA ?xA ?rA ?sA ?eA ?yA ?kA ?jA ?tA ?nA ?gA ?oA ?dA ?qA ?liA ?ciA ?kiA ?aL ?xL ?rL ?sL ?eL ?yL ?kL ?jL ?tL ?nL ?gL ?oL ?dL ?qL ?liL ?ciL ?kiL ?uAA ?uLA ?uLL ?aR ?rR ?gR ?fR
    (case a0 => k_is)
    (case l0 => k_is)
    (case c0 => k_is)
    (case k0 => k_is)
    (case a1 => k_is)
    (case l1 => k_is)
    (case c1 => k_is)
    (case k1 => k_is)
    (case a2 => k_is)
    (case l2 => k_is)
    (case c2 => k_is)
    (case k2 => k_is)
    (case a3 => k_is)
    (case l3 => k_is)
    (case c3 => k_is)
    (case k3 => k_is)
    (case a4 => k_is)
    (case l4 => k_is)
    (case c4 => k_is)
    (case k4 => k_is)
    (case a5 => k_is)
    (case l5 => k_is)
    (case c5 => k_is)
    (case k5 => k_is)
    (case a6 => k_is)
    (case l6 => k_is)
    (case c6 => k_is)
    (case k6 => k_is)
    (case a7 => k_is)
    (case l7 => k_is)
    (case c7 => k_is)
    (case k7 => k_is)
    (case a8 => k_is)
    (case l8 => k_is)
    (case c8 => k_is)
    (case k8 => k_is)
    (case a9 => k_is)
    (case l9 => k_is)
    (case c9 => k_is)
    (case k9 => k_is)
    (case a10 => k_is)
    (case l10 => k_is)
    (case c10 => k_is)
    (case k10 => k_is)
    (case a11 => k_is)
    (case l11 => k_is)
    (case c11 => k_is)
    (case k11 => k_is)
    (case a12 => k_is)
    (case l12 => k_is)
    (case c12 => k_is)
    (case k12 => k_is)
    (case a13 => k_is)
    (case l13 => k_is)
    (case c13 => k_is)
    (case k13 => k_is)
    (case a14 => k_is)
    (case l14 => k_is)
    (case c14 => k_is)
    (case k14 => k_is)
    (case a15 => k_is)
    (case l15 => k_is)
    (case c15 => k_is)
    (case k15 => k_is)
    (case a16 => k_is)
    (case l16 => k_is)
    (case c16 => k_is)
    (case k16 => k_is)
    (case a17 => k_is)
    (case l17 => k_is)
    (case c17 => k_is)
    (case k17 => k_is)
    (case a18 => k_is)
    (case l18 => k_is)
    (case c18 => k_is)
    (case k18 => k_is)
    (case a19 => k_is)
    (case l19 => k_is)
    (case c19 => k_is)
    (case k19 => k_is)
    (case a20 => k_is)
    (case l20 => k_is)
    (case c20 => k_is)
    (case k20 => k_is)
    (case a21 => k_is)
    (case l21 => k_is)
    (case c21 => k_is)
    (case k21 => k_is)
    (case a22 => k_is)
    (case l22 => k_is)
    (case c22 => k_is)
    (case k22 => k_is)
    (case a23 => k_is)
    (case l23 => k_is)
    (case c23 => k_is)
    (case k23 => k_is)
    (case a24 => k_is)
    (case l24 => k_is)
    (case c24 => k_is)
    (case k24 => k_is)
    (case a25 => k_is)
    (case l25 => k_is)
    (case c25 => k_is)
    (case k25 => k_is)
    (case a26 => k_is)
    (case l26 => k_is)
    (case c26 => k_is)
    (case k26 => k_is)
    (case a27 => k_is)
    (case l27 => k_is)
    (case c27 => k_is)
    (case k27 => k_is)
    (case a28 => k_is)
    (case l28 => k_is)
    (case c28 => k_is)
    (case k28 => k_is)
    (case a29 => k_is)
    (case l29 => k_is)
    (case c29 => k_is)
    (case k29 => k_is)
    (case a30 => k_is)
    (case l30 => k_is)
    (case c30 => k_is)
    (case k30 => k_is)
    (case a31 => k_is)
    (case l31 => k_is)
    (case c31 => k_is)
    (case k31 => k_is)
    (case a32 => k_is)
    (case l32 => k_is)
    (case c32 => k_is)
    (case k32 => k_is)
    (case a33 => k_is)
    (case l33 => k_is)
    (case c33 => k_is)
    (case k33 => k_is)
    (case a34 => k_is)
    (case l34 => k_is)
    (case c34 => k_is)
    (case k34 => k_is)
    (case a35 => k_is)
    (case l35 => k_is)
    (case c35 => k_is)
    (case k35 => k_is)
    (case a36 => k_is)
    (case l36 => k_is)
    (case c36 => k_is)
    (case k36 => k_is)
    (case a37 => k_is)
    (case l37 => k_is)
    (case c37 => k_is)
    (case k37 => k_is)
    (case a38 => k_is)
    (case l38 => k_is)
    (case c38 => k_is)
    (case k38 => k_is)
    (case a39 => k_is)
    (case l39 => k_is)
    (case c39 => k_is)
    (case k39 => k_is)
    (case a40 => k_is)
    (case l40 => k_is)
    (case c40 => k_is)
    (case k40 => k_is)
    (case a41 => k_is)
    (case l41 => k_is)
    (case c41 => k_is)
    (case k41 => k_is)
    (case a42 => k_is)
    (case l42 => k_is)
    (case c42 => k_is)
    (case k42 => k_is)
    (case a43 => k_is)
    (case l43 => k_is)
    (case c43 => k_is)
    (case k43 => k_is)
    (case a44 => k_is)
    (case l44 => k_is)
    (case c44 => k_is)
    (case k44 => k_is)
    (case a45 => k_is)
    (case l45 => k_is)
    (case c45 => k_is)
    (case k45 => k_is)
    (case a46 => k_is)
    (case l46 => k_is)
    (case c46 => k_is)
    (case k46 => k_is)
    (case a47 => k_is)
    (case l47 => k_is)
    (case c47 => k_is)
    (case k47 => k_is)
    (case b_isinstance => k_is)
    (case b_int => k_is)
    (case b_bool => k_is)
    (case b_list => k_is)
    (case b_tuple => k_is)
    (case b_str => k_is)
    (case b_all => k_is)
    (case b_set => k_is)
    (case b_len => k_is)
    (case b_range => k_is)
    (case b_sum => k_is)
    (case b_sorted => k_is)
    (case b_min => k_is)
    (case b_max => k_is)
    (case b_abs => k_is)
    (case b_dict => k_is)
    (case b_repr => k_is)
    (case pP => k_is)
    (case aS => k_is)
    (case lS => k_is)
    (case lT0 => k_is)
    (case lT1 => k_is)
    (case lT2 => k_is)
    (case lT3 => k_is)
    (case lT4 => k_is)
    (case lT5 => k_is)
    (case zS => first | rfl | k_is)
    (case aA => k_is)
    (case xA => k_is)
    (case rA => first | rfl | k_is)
    (case sA => k_is)
    (case eA => k_is)
    (case yA => k_is)
    (case kA => k_is)
    (case jA => k_is)
    (case tA => k_is)
    (case nA => k_is)
    (case gA => k_is)
    (case oA => k_is)
    (case dA => k_is)
    (case qA => k_is)
    (case liA => k_is)
    (case ciA => k_is)
    (case kiA => k_is)
    (case aL => k_is)
    (case xL => k_is)
    (case rL => first | rfl | k_is)
    (case sL => k_is)
    (case eL => k_is)
    (case yL => k_is)
    (case kL => k_is)
    (case jL => k_is)
    (case tL => k_is)
    (case nL => k_is)
    (case gL => k_is)
    (case oL => k_is)
    (case dL => k_is)
    (case qL => k_is)
    (case liL => k_is)
    (case ciL => k_is)
    (case kiL => k_is)
    (case uAA => k_is)
    (case uLA => k_is)
    (case uLL => k_is)
    (case aR => k_is)
    (case rR => k_is)
    (case gR => k_is)
    (case fR => k_is)
