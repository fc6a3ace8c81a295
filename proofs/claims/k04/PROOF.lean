import PyProof.Rows.All
import HandS.ForMost
import HandS.IsInst
import HandS.TupAny
import KE.KDictKeyed
import HandS.GenList
import HandS.AnyAll
import KE.DataEq
import KE.DataCmp
import KE.DataIsa
import KE.SortData
import KE.DataMinMax
import HandS.Style
import HandS.Text
import HandS.TupMul
import HandS.Codes
import HandS.Zip
import HandS.Conv
import HandS.TupLen
import HandS.RevTup
import HandS.Rev
import HandS.Star
import HandS.Keys
import HandS.Head0
import HandS.Head1
import HandS.Head2
import HandS.HeadEnd
import HandS.HeadHook1
import HandS.HeadHook2
import HandS.HeadHook3
import HandS.HeadHook4
import HandS.HeadWalk
import HandS.Iter
import PySem.Challenge.RW_slideclear_k04_whole_boxes_and_things
set_option Elab.async false
set_option linter.all false
set_option maxRecDepth 100000
set_option maxHeartbeats 4000000
set_option autoImplicit false
/-! Sd: data-level semantics over the hand layer: data, slots, results, what a state holds. -/
namespace Sd
open PySem PySem.Spec PyProof.Rows L2
abbrev St := L2.St

/-- what is fixed through a def: the code tables, the slots that are lent with their addresses -/
structure Fx where
  tabs : List Addr
  L : List (Nat × Addr)
structure Cn where
  P : Program
  w : World
  K : PySem.W.Frag
abbrev cnOf (X : Cx) : Cn := ⟨X.prog, X.w, X.K⟩
abbrev D := PyData

inductive Ob where
  | lst (xs : List D)
  | dct (kvs : List (D × D))
def Ob.frz : Ob → D
  | .lst xs => .list xs
  | .dct kvs => .dict kvs
inductive Sl where
  | val (d : D)
  | own (o : Ob)
def Sl.frz : Sl → D
  | .val d => d
  | .own o => o.frz
abbrev Ev := List (Option Sl)
inductive Res (α : Type) where
  | ok (a : α) (ρ : Ev)
  | exc (c : Str) (ρ : Ev)
  | bad
abbrev M (α : Type) := Ev → Res α

/-! ### what stands where -/
def keyD : Key → D
  | .inl i => .int i
  | .inr x => .str x
def NDict (c : Cn) (a : Addr) (xs : List (NestedKey × Addr × V)) (h : Heap) : Prop :=
  (a == sysModules) = false ∧ xs.length ≤ sizeLine ∧ ∃ ys : List (NestedKey × Addr × Value), Paired (fun x y => x.1 = y.1 ∧ x.2.1 = y.2.1 ∧ RelV x.2.2 y.2.2) xs ys ∧
    ∃ o es ep, h.get? a = some o ∧ o.ExactDict ∧ o.data = .dict es ep ∧ es.toList = ys.map (entryOfKey (nestedKind c.P c.w)) ∧ (ys.map (·.1)).Nodup
mutual
/-- the value v, over the heap G, is the datum d -/
inductive Rep (c : Cn) (G : Hp) : V → D → Prop
  | non : Rep c G .non .none
  | bl (b : Bool) : Rep c G (.bl b) (.bool b)
  | int (i : Int) : Rep c G (.int i) (.int i)
  | str (x : Str) : Rep c G (.str x) (.str x)
  | lst {a : Addr} {vs : List V} {ds : List D} : SqL c.K G a vs → Reps c G vs ds → Rep c G (.ref a) (.list ds)
  | tup {a : Addr} {vs : List V} {ds : List D} : SqT c.K G a vs → Reps c G vs ds → Rep c G (.ref a) (.tuple ds)
  | dctK {a : Addr} {es : List (Key × V)} {kvs : List (D × D)} : Rd G a (.dK es) → RepsK c G es kvs → Rep c G (.ref a) (.dict kvs)
  | dctN {a : Addr} {xs : List (NestedKey × Addr × V)} {kvs : List (D × D)} : G a = some (.ext (NDict c a xs)) → RepsN c G xs kvs → Rep c G (.ref a) (.dict kvs)
inductive Reps (c : Cn) (G : Hp) : List V → List D → Prop
  | nil : Reps c G [] []
  | cons {v : V} {vs : List V} {d : D} {ds : List D} : Rep c G v d → Reps c G vs ds → Reps c G (v :: vs) (d :: ds)
inductive RepsK (c : Cn) (G : Hp) : List (Key × V) → List (D × D) → Prop
  | nil : RepsK c G [] []
  | cons {k : Key} {v : V} {es : List (Key × V)} {d : D} {kvs : List (D × D)} : Rep c G v d → RepsK c G es kvs → RepsK c G ((k, v) :: es) ((keyD k, d) :: kvs)
inductive RepsN (c : Cn) (G : Hp) : List (NestedKey × Addr × V) → List (D × D) → Prop
  | nil : RepsN c G [] []
  | cons {k : NestedKey} {b : Addr} {v : V} {xs : List (NestedKey × Addr × V)} {d : D} {kvs : List (D × D)} : k.depth ≤ 8 → Rep c G (.ref b) k.data → Rep c G v d → RepsN c G xs kvs → RepsN c G ((k, b, v) :: xs) ((k.data, d) :: kvs)
end

theorem sqt_mono {K : PySem.W.Frag} {G G' : Hp} (h : Same G G') {a : Addr} {xs : List V} (q : SqT K G a xs) : SqT K G' a xs := by
  rcases q with (q | ⟨o, q⟩) | q
  · exact .inl (.inl (h _ _ q))
  · exact .inl (.inr ⟨o, h _ _ q⟩)
  · exact .inr q
theorem rd_mono {G G' : Hp} (h : Same G G') {a : Addr} {u : HO} (q : Rd G a u) : Rd G' a u := by
  rcases q with q | ⟨o, q⟩
  · exact .inl (h _ _ q)
  · exact .inr ⟨o, h _ _ q⟩
mutual
theorem Rep.mono {c : Cn} {G G' : Hp} (h : Same G G') : ∀ {v : V} {d : D}, Rep c G v d → Rep c G' v d
  | _, _, .non => .non
  | _, _, .bl b => .bl b
  | _, _, .int b => .int b
  | _, _, .str b => .str b
  | _, _, .lst q r => .lst (h.seq q) (Reps.mono h r)
  | _, _, .tup q r => .tup (sqt_mono h q) (Reps.mono h r)
  | _, _, .dctK q r => .dctK (rd_mono h q) (RepsK.mono h r)
  | _, _, .dctN q r => .dctN (h _ _ q) (RepsN.mono h r)
theorem Reps.mono {c : Cn} {G G' : Hp} (h : Same G G') : ∀ {v : List V} {d : List D}, Reps c G v d → Reps c G' v d
  | _, _, .nil => .nil
  | _, _, .cons a b => .cons (Rep.mono h a) (Reps.mono h b)
theorem RepsK.mono {c : Cn} {G G' : Hp} (h : Same G G') : ∀ {v : List (Key × V)} {d : List (D × D)}, RepsK c G v d → RepsK c G' v d
  | _, _, .nil => .nil
  | _, _, .cons a b => .cons (Rep.mono h a) (RepsK.mono h b)
theorem RepsN.mono {c : Cn} {G G' : Hp} (h : Same G G') : ∀ {v : List (NestedKey × Addr × V)} {d : List (D × D)}, RepsN c G v d → RepsN c G' v d
  | _, _, .nil => .nil
  | _, _, .cons l a b e => .cons l (Rep.mono h a) (Rep.mono h b) (RepsN.mono h e)
end

theorem Reps.length {c : Cn} {G : Hp} : ∀ {vs : List V} {ds : List D}, Reps c G vs ds → vs.length = ds.length
  | _, _, .nil => rfl
  | _, _, .cons _ t => by simp [Reps.length t]
theorem Reps.append {c : Cn} {G : Hp} : ∀ {vs ws : List V} {ds es : List D}, Reps c G vs ds → Reps c G ws es → Reps c G (vs ++ ws) (ds ++ es)
  | _, _, _, _, .nil, q => q
  | _, _, _, _, .cons a t, q => .cons a (Reps.append t q)
theorem Reps.get {c : Cn} {G : Hp} : ∀ {vs : List V} {ds : List D} (i : Nat) {d : D}, Reps c G vs ds → ds[i]? = some d → ∃ v, vs[i]? = some v ∧ Rep c G v d
  | _, _, _, _, .nil, e => by simp at e
  | _, _, 0, _, .cons a t, e => by simp at e; subst e; exact ⟨_, rfl, a⟩
  | _, _, i + 1, _, .cons a t, e => by
    obtain ⟨v, h1, h2⟩ := Reps.get i t (by simpa using e)
    exact ⟨v, by simpa using h1, h2⟩
theorem Reps.getV {c : Cn} {G : Hp} : ∀ {vs : List V} {ds : List D} (i : Nat) {v : V}, Reps c G vs ds → vs[i]? = some v → ∃ d, ds[i]? = some d ∧ Rep c G v d
  | _, _, _, _, .nil, e => by simp at e
  | _, _, 0, _, .cons a t, e => by simp at e; subst e; exact ⟨_, rfl, a⟩
  | _, _, i + 1, _, .cons a t, e => by
    obtain ⟨v, h1, h2⟩ := Reps.getV i t (by simpa using e)
    exact ⟨v, by simpa using h1, h2⟩
theorem Reps.take {c : Cn} {G : Hp} : ∀ {vs : List V} {ds : List D} (n : Nat), Reps c G vs ds → Reps c G (vs.take n) (ds.take n)
  | _, _, 0, _ => by simpa using .nil
  | _, _, n + 1, .nil => by simpa using .nil
  | _, _, n + 1, .cons a t => by simpa using .cons a (Reps.take n t)
theorem Reps.drop {c : Cn} {G : Hp} : ∀ {vs : List V} {ds : List D} (n : Nat), Reps c G vs ds → Reps c G (vs.drop n) (ds.drop n)
  | _, _, 0, q => by simpa using q
  | _, _, n + 1, .nil => by simpa using .nil
  | _, _, n + 1, .cons a t => by simpa using Reps.drop n t
theorem Reps.set {c : Cn} {G : Hp} {v : V} {d : D} (r : Rep c G v d) : ∀ {vs : List V} {ds : List D} (n : Nat), Reps c G vs ds → Reps c G (vs.set n v) (ds.set n d)
  | _, _, _, .nil => by simpa using .nil
  | _, _, 0, .cons a t => by simpa using .cons r t
  | _, _, n + 1, .cons a t => by simpa using .cons a (Reps.set r n t)
theorem Reps.reverse {c : Cn} {G : Hp} : ∀ {vs : List V} {ds : List D}, Reps c G vs ds → Reps c G vs.reverse ds.reverse
  | _, _, .nil => by simpa using .nil
  | _, _, .cons a t => by simpa using (Reps.reverse t).append (.cons a .nil)
theorem Reps.dropLast {c : Cn} {G : Hp} {vs : List V} {ds : List D} (r : Reps c G vs ds) : Reps c G vs.dropLast ds.dropLast := by
  rw [List.dropLast_eq_take, List.dropLast_eq_take, r.length]; exact r.take _

/-- an owned object at a -/
def ObAt (c : Cn) (G H : Hp) (a : Addr) : Ob → Prop
  | .lst ds => ∃ vs, H a = some (.lst vs) ∧ Reps c G vs ds
  | .dct kvs => (∃ es, H a = some (.dK es) ∧ RepsK c G es kvs) ∨ ∃ xs, H a = some (.ext (NDict c a xs)) ∧ RepsN c G xs kvs
def SlAt (c : Cn) (O : Addr → Prop) (G H : Hp) (v : V) : Sl → Prop
  | .val d => Rep c G v d
  | .own o => ∃ a, v = .ref a ∧ O a ∧ G a = none ∧ ObAt c G H a o
/-- an expression's result: a datum, or an owned object that is new -/
def RepR (c : Cn) (H0 G H : Hp) (v : V) : Sl → Prop
  | .val d => Rep c G v d
  | .own o => ∃ a, v = .ref a ∧ H0 a = none ∧ G a = none ∧ ObAt c G H a o

theorem ObAt.mono {c : Cn} {G G' H H' : Hp} {a : Addr} {o : Ob} (h : Same G G') (hH : H' a = H a) (q : ObAt c G H a o) : ObAt c G' H' a o := by
  cases o with
  | lst ds => obtain ⟨vs, e, r⟩ := q; exact ⟨vs, hH.trans e, r.mono h⟩
  | dct kvs =>
    rcases q with ⟨es, e, r⟩ | ⟨xs, e, r⟩
    · exact .inl ⟨es, hH.trans e, r.mono h⟩
    · exact .inr ⟨xs, hH.trans e, r.mono h⟩
theorem ObAt.there {c : Cn} {G H : Hp} {a : Addr} {o : Ob} (q : ObAt c G H a o) : ∃ u, H a = some u ∧ (∀ ps, u ≠ .tbl ps) ∧ Mut (some u) := by
  cases o with
  | lst ds => obtain ⟨vs, e, r⟩ := q; exact ⟨_, e, (fun ps z => by cases z), trivial⟩
  | dct kvs =>
    rcases q with ⟨es, e, r⟩ | ⟨xs, e, r⟩
    · exact ⟨_, e, (fun ps z => by cases z), trivial⟩
    · exact ⟨_, e, (fun ps z => by cases z), trivial⟩
theorem upd_some {H : Hp} {a : Addr} {u : HO} (e : H a = some u) : upd H a u = H := by
  funext b
  unfold upd
  split
  · rename_i z; rw [z, e]
  · rfl
/-- frozen -/
theorem ObAt.frz {c : Cn} {G H : Hp} {a : Addr} {o : Ob} {u : HO} (q : ObAt c G H a o) (e : H a = some u) (n : G a = none) : Rep c (upd G a u) (.ref a) o.frz := by
  have s : Same G (upd G a u) := fun b v h => by
    rw [upd_ne (ne_of_none h n)]; exact h
  cases o with
  | lst ds =>
    obtain ⟨vs, e', r⟩ := q
    rw [e] at e'; cases e'
    exact .lst (.inl (.inl upd_same)) (r.mono s)
  | dct kvs =>
    rcases q with ⟨es, e', r⟩ | ⟨xs, e', r⟩
    · rw [e] at e'; cases e'
      exact .dctK (.inl upd_same) (r.mono s)
    · rw [e] at e'; cases e'
      exact .dctN upd_same (r.mono s)

/-! ### transitions -/
structure Tr (O : Addr → Prop) (G H G' H' : Hp) : Prop where
  g : ∀ a o, G a = some o → G' a = some o
  k : ∀ a o, H a = some o → ¬ O a → (∀ ps, o ≠ .tbl ps) → H' a = some o
  n : ∀ a o, G' a = some o → G a = some o ∨ H a = none ∨ O a
  d : ∀ a, H' a = none → H a = none
  t : ∀ a ps, H a = some (.tbl ps) → ∃ ps', H' a = some (.tbl ps')
theorem Tr.refl {O : Addr → Prop} {G H : Hp} : Tr O G H G H := ⟨fun _ _ h => h, fun _ _ h _ _ => h, fun _ _ h => .inl h, fun _ h => h, fun _ ps h => ⟨ps, h⟩⟩
theorem Tr.same {O : Addr → Prop} {G H G' H' : Hp} (t : Tr O G H G' H') : Same G G' := t.g
/-- O' : the owned ones behind the first part -/
theorem Tr.trans {O O' : Addr → Prop} {G H G1 H1 G2 H2 : Hp} (a : Tr O G H G1 H1) (ho : ∀ x, O' x → O x ∨ H x = none) (b : Tr O' G1 H1 G2 H2) : Tr O G H G2 H2 where
  g := fun x o h => b.g x o (a.g x o h)
  k := fun x o h n t => b.k x o (a.k x o h n t) (fun z => (ho x z).elim n fun e => by rw [h] at e; cases e) t
  n := fun x o h => by
    rcases b.n x o h with q | q | q
    · exact a.n x o q
    · exact .inr (.inl (a.d x q))
    · exact .inr ((ho x q).elim .inr .inl)
  d := fun x h => a.d x (b.d x h)
  t := fun x ps h => by
    obtain ⟨ps1, h1⟩ := a.t x ps h
    exact b.t x ps1 h1
theorem Tr.trans' {O : Addr → Prop} {G H G1 H1 G2 H2 : Hp} (a : Tr O G H G1 H1) (b : Tr O G1 H1 G2 H2) : Tr O G H G2 H2 := a.trans (fun _ h => .inl h) b
theorem Tr.wider {O O' : Addr → Prop} {G H G1 H1 : Hp} (a : Tr O G H G1 H1) (h : ∀ x, O x → O' x) : Tr O' G H G1 H1 :=
  ⟨a.g, fun x o e n t => a.k x o e (fun z => n (h x z)) t, fun x o e => (a.n x o e).imp id (Or.imp id (h x)), a.d, a.t⟩
/-- something new was laid and is frozen (or is left free) -/
theorem Tr.new {O : Addr → Prop} {G H : Hp} {p : Addr} {o : HO} (hp : H p = none) (hg : G p = none) : Tr O G H (upd G p o) (upd H p o) where
  g := fun a u h => by rw [upd_ne (ne_of_none h hg)]; exact h
  k := fun a u h _ _ => by rw [upd_ne (ne_of_none h hp)]; exact h
  n := fun a u h => by
    by_cases e : a = p
    · subst e; exact .inr (.inl hp)
    · rw [upd_ne e] at h; exact .inl h
  d := fun a h => by
    by_cases e : a = p
    · subst e; exact hp
    · rw [upd_ne e] at h; exact h
  t := fun a ps h => ⟨ps, by rw [upd_ne (ne_of_none h hp)]; exact h⟩
theorem Tr.laid {O : Addr → Prop} {G H : Hp} {p : Addr} {o : HO} (hp : H p = none) : Tr O G H G (upd H p o) where
  g := fun a u h => h
  k := fun a u h _ _ => by rw [upd_ne (ne_of_none h hp)]; exact h
  n := fun a u h => .inl h
  d := fun a h => by
    by_cases e : a = p
    · subst e; exact hp
    · rw [upd_ne e] at h; exact h
  t := fun a ps h => ⟨ps, by rw [upd_ne (ne_of_none h hp)]; exact h⟩
/-- an owned object is written -/
theorem Tr.write {O : Addr → Prop} {G H : Hp} {a : Addr} {o u : HO} (ho : O a) (hu : H a = some u) (hn : ∀ ps, u ≠ .tbl ps) : Tr O G H G (upd H a o) where
  g := fun a u h => h
  k := fun b v h n _ => by rw [upd_ne (fun e : b = a => n (by rw [e]; exact ho))]; exact h
  n := fun a u h => .inl h
  d := fun b h => by
    by_cases e : b = a
    · subst e; rw [upd_same] at h; cases h
    · rw [upd_ne e] at h; exact h
  t := fun b ps h => ⟨ps, by
    rw [upd_ne (fun e => by subst e; rw [h] at hu; exact hn ps (Option.some.inj hu).symm)]; exact h⟩

/-! ### what a state holds -/
structure Hold (c : Cn) (T : Fx) (O : Addr → Prop) (G : Hp) (σ : St) (H : Hp) (ρ : Ev) : Prop where
  sub : ∀ a o, G a = some o → H a = some o
  ntb : ∀ a ps, G a ≠ some (.tbl ps)
  oin : ∀ a, O a → H a ≠ none
  tab : ∀ p ∈ T.tabs, ∃ ps : Array Value, H p = some (.tbl ps) ∧ TriplesOk ps.toList
  lnt : ∀ p ∈ T.L, σ[p.1]? = some (some (.ref p.2))
  len : ρ.length = σ.length
  slot : ∀ (i : Nat) (s : Sl), ρ[i]? = some (some s) → ∃ v, σ[i]? = some (some v) ∧ SlAt c O G H v s
  apart : ∀ (i j : Nat) (o o' : Ob) (a : Addr), i ≠ j → ρ[i]? = some (some (.own o)) → ρ[j]? = some (some (.own o')) → σ[i]? = some (some (.ref a)) → σ[j]? ≠ some (some (.ref a))

/-- new objects alone, nothing else touched -/
structure TrN (G H G' H' : Hp) : Prop where
  g : ∀ a o, G a = some o → G' a = some o
  k : ∀ a o, H a = some o → H' a = some o
  n : ∀ a o, G' a = some o → G a = some o ∨ H a = none
  s : ∀ a o, G' a = some o → H' a = some o
  b : ∀ a ps, G' a ≠ some (.tbl ps)
theorem TrN.tr {O : Addr → Prop} {G H G' H' : Hp} (t : TrN G H G' H') : Tr O G H G' H' :=
  ⟨t.g, fun a o h _ _ => t.k a o h, fun a o h => (t.n a o h).imp id .inl, fun a h => (by
    cases q : H a with
    | none => rfl
    | some o => rw [t.k a o q] at h; cases h), fun a ps h => ⟨ps, t.k a _ h⟩⟩
theorem TrN.refl {G H : Hp} (s : ∀ a o, G a = some o → H a = some o) (b : ∀ a ps, G a ≠ some (.tbl ps)) : TrN G H G H := ⟨fun _ _ h => h, fun _ _ h => h, fun _ _ h => .inl h, s, b⟩
theorem TrN.new {G H : Hp} {p : Addr} {o : HO} (s : ∀ a o, G a = some o → H a = some o) (b : ∀ a ps, G a ≠ some (.tbl ps)) (hp : H p = none) (ho : ∀ ps, o ≠ .tbl ps) : TrN G H (upd G p o) (upd H p o) := by
  have hg : G p = none := by
    cases q : G p with
    | none => rfl
    | some u => rw [s p u q] at hp; cases hp
  refine ⟨fun a u h => ?_, fun a u h => ?_, fun a u h => ?_, fun a u h => ?_, fun a ps h => ?_⟩
  · rw [upd_ne (ne_of_none h hg)]; exact h
  · rw [upd_ne (ne_of_none h hp)]; exact h
  · by_cases e : a = p
    · subst e; exact .inr hp
    · rw [upd_ne e] at h; exact .inl h
  · by_cases e : a = p
    · subst e; rw [upd_same] at h ⊢; exact h
    · rw [upd_ne e] at h ⊢; exact s a u h
  · by_cases e : a = p
    · subst e; rw [upd_same] at h; exact ho ps (Option.some.inj h)
    · rw [upd_ne e] at h; exact b a ps h
theorem TrN.laid {G H : Hp} {p : Addr} {o : HO} (s : ∀ a o, G a = some o → H a = some o) (b : ∀ a ps, G a ≠ some (.tbl ps)) (hp : H p = none) : TrN G H G (upd H p o) := by
  refine ⟨fun a u h => h, fun a u h => ?_, fun a u h => .inl h, fun a u h => ?_, b⟩
  · rw [upd_ne (ne_of_none h hp)]; exact h
  · rw [upd_ne (ne_of_none (s a u h) hp)]; exact s a u h
section
variable {c : Cn} {T : Fx} {O : Addr → Prop} {G H G' H' : Hp} {σ : St} {ρ : Ev}
theorem Hold.trn (h : Hold c T O G σ H ρ) (t : TrN G H G' H') : Hold c T O G' σ H' ρ where
  sub := t.s
  ntb := t.b
  oin := fun a ho e => by
    cases q : H a with
    | none => exact h.oin a ho q
    | some u => rw [t.k a u q] at e; cases e
  tab := fun p hp => by
    obtain ⟨ps, e, q⟩ := h.tab p hp
    exact ⟨ps, t.k p _ e, q⟩
  lnt := h.lnt
  len := h.len
  slot := fun i s hi => by
    obtain ⟨v, e, q⟩ := h.slot i s hi
    refine ⟨v, e, ?_⟩
    cases s with
    | val d => exact Rep.mono t.g q
    | own o =>
      obtain ⟨a, rfl, ho, hg, q⟩ := q
      obtain ⟨u, hu, _⟩ := q.there
      refine ⟨a, rfl, ho, ?_, q.mono t.g ((t.k a u hu).trans hu.symm)⟩
      cases z : G' a with
      | none => rfl
      | some w =>
        rcases t.n a w z with y | y
        · rw [hg] at y; cases y
        · rw [hu] at y; cases y
  apart := h.apart
theorem Hold.gnone (h : Hold c T O G σ H ρ) {p : Addr} (hp : H p = none) : G p = none := by
  cases q : G p with
  | none => rfl
  | some u => rw [h.sub p u q] at hp; cases hp
theorem Hold.at_own {i : Nat} {o : Ob} (h : Hold c T O G σ H ρ) (e : ρ[i]? = some (some (.own o))) : ∃ a, σ[i]? = some (some (.ref a)) ∧ O a ∧ G a = none ∧ ObAt c G H a o := by
  obtain ⟨v, e1, a, rfl, q⟩ := h.slot i _ e
  exact ⟨a, e1, q⟩
theorem Hold.at_val {i : Nat} {d : D} (h : Hold c T O G σ H ρ) (e : ρ[i]? = some (some (.val d))) : ∃ v, σ[i]? = some (some v) ∧ Rep c G v d := h.slot i _ e
/-- an object outside of the slots is frozen -/
theorem Hold.freeze {a : Addr} {o : Ob} (h : Hold c T O G σ H ρ) (hO : ¬ O a) (hg : G a = none) (q : ObAt c G H a o) : ∃ G', (∀ b, b ≠ a → G' b = G b) ∧ Same G G' ∧ G' a = H a ∧ Hold c T O G' σ H ρ ∧ Rep c G' (.ref a) o.frz := by
  obtain ⟨u, hu, ht, _⟩ := q.there
  have s : Same G (upd G a u) := fun b v e => by rw [upd_ne (ne_of_none e hg)]; exact e
  refine ⟨upd G a u, fun b hb => upd_ne hb, s, by rw [upd_same, hu], ⟨?_, ?_, h.oin, h.tab, h.lnt, h.len, ?_, h.apart⟩, q.frz hu hg⟩
  · intro b v e
    by_cases z : b = a
    · subst z; rw [upd_same] at e; cases e; exact hu
    · rw [upd_ne z] at e; exact h.sub b v e
  · intro b ps e
    by_cases z : b = a
    · subst z; rw [upd_same] at e; exact ht ps (Option.some.inj e)
    · rw [upd_ne z] at e; exact h.ntb b ps e
  · intro i sl hi
    obtain ⟨v, e1, q1⟩ := h.slot i sl hi
    refine ⟨v, e1, ?_⟩
    cases sl with
    | val d => exact Rep.mono s q1
    | own o' =>
      obtain ⟨b, rfl, ho, hg', q2⟩ := q1
      refine ⟨b, rfl, ho, ?_, q2.mono s rfl⟩
      rw [upd_ne (fun z : b = a => hO (by rw [← z]; exact ho))]
      exact hg'
theorem set_some_of {α : Type} {l : List α} {i j : Nat} {x y : α} (h : (l.set i x)[j]? = some y) : (j = i ∧ y = x) ∨ (j ≠ i ∧ l[j]? = some y) := by
  by_cases e : i = j
  · subst e
    by_cases hl : i < l.length
    · rw [List.getElem?_set_self hl] at h; exact .inl ⟨rfl, (Option.some.inj h).symm⟩
    · rw [List.getElem?_eq_none (by simpa using hl)] at h; cases h
  · rw [List.getElem?_set_ne e] at h; exact .inr ⟨fun z => e z.symm, h⟩
/-- a slot's object is frozen -/
theorem Hold.freezeS {i : Nat} {o : Ob} (h : Hold c T O G σ H ρ) (e : ρ[i]? = some (some (.own o))) :
    ∃ a G', σ[i]? = some (some (.ref a)) ∧ Tr O G H G' H ∧ Hold c T O G' σ H (ρ.set i (some (.val o.frz))) ∧ Rep c G' (.ref a) o.frz := by
  obtain ⟨a, ea, ho, hg, q⟩ := h.at_own e
  obtain ⟨u, hu, ht, _⟩ := q.there
  have s : Same G (upd G a u) := fun b v e => by rw [upd_ne (ne_of_none e hg)]; exact e
  refine ⟨a, upd G a u, ea, ⟨s, fun _ _ h _ _ => h, fun b v hb => ?_, fun _ h => h, fun _ ps h => ⟨ps, h⟩⟩, ⟨?_, ?_, h.oin, h.tab, h.lnt, by rw [List.length_set]; exact h.len, ?_, ?_⟩, q.frz hu hg⟩
  · by_cases z : b = a
    · subst z; exact .inr (.inr ho)
    · rw [upd_ne z] at hb; exact .inl hb
  · intro b v e
    by_cases z : b = a
    · subst z; rw [upd_same] at e; cases e; exact hu
    · rw [upd_ne z] at e; exact h.sub b v e
  · intro b ps e
    by_cases z : b = a
    · subst z; rw [upd_same] at e; exact ht ps (Option.some.inj e)
    · rw [upd_ne z] at e; exact h.ntb b ps e
  · intro j sl hj
    rcases set_some_of hj with ⟨rfl, hs⟩ | ⟨hne, hj⟩
    · cases hs
      exact ⟨_, ea, q.frz hu hg⟩
    · obtain ⟨v, e1, q1⟩ := h.slot j sl hj
      refine ⟨v, e1, ?_⟩
      cases sl with
      | val d => exact Rep.mono s q1
      | own o' =>
        obtain ⟨b, rfl, ho', hg', q2⟩ := q1
        refine ⟨b, rfl, ho', ?_, q2.mono s rfl⟩
        rw [upd_ne (fun z => h.apart i j o o' a (Ne.symm hne) e hj ea (by rw [← z]; exact e1))]
        exact hg'
  · intro j l o1 o2 b hjl hj hl
    rcases set_some_of hj with ⟨_, hs⟩ | ⟨_, hj⟩
    · cases hs
    · rcases set_some_of hl with ⟨_, hs⟩ | ⟨_, hl⟩
      · cases hs
      · exact h.apart j l o1 o2 b hjl hj hl
end
end Sd
set_option Elab.async false
set_option linter.all false
set_option maxRecDepth 100000
set_option maxHeartbeats 4000000
set_option autoImplicit false
/-! Sd: readings of data-level semantics; operands; operators. -/
namespace Sd
open PySem PySem.Spec PyProof.Rows L2

/-- what is wanted of an exception of the class named, by slots and heap -/
abbrev WX := Str → St → Hp → Prop
def W0 : WX := fun _ _ _ => False

section
variable (c : Cn) (T : Fx) (W : WX)
/-- the reading of f: from a state that holds an environment -/
def dT (f : M Sl) : TE := fun σ H Q => ∃ O G ρ, Hold c T O G σ H ρ ∧ match f ρ with
  | .ok r ρ' => ∀ v G' H', Tr O G H G' H' → Hold c T O G' σ H' ρ' → RepR c H G' H' v r → Q v H'
  | .exc e ρ' => ∀ G' H', Tr O G H G' H' → Hold c T O G' σ H' ρ' → W e σ H'
  | .bad => False
/-- .. of a test -/
def dB (f : M Bool) : TT := fun σ H Q => ∃ O G ρ, Hold c T O G σ H ρ ∧ match f ρ with
  | .ok r ρ' => ∀ G' H', Tr O G H G' H' → Hold c T O G' σ H' ρ' → Q r H'
  | .exc e ρ' => ∀ G' H', Tr O G H G' H' → Hold c T O G' σ H' ρ' → W e σ H'
  | .bad => False
/-- .. of a list of values, all frozen -/
def dA (f : M (List D)) : TA := fun σ H Q => ∃ O G ρ, Hold c T O G σ H ρ ∧ match f ρ with
  | .ok ds ρ' => ∀ vs G' H', Tr O G H G' H' → Hold c T O G' σ H' ρ' → Reps c G' vs ds → Q vs H'
  | .exc e ρ' => ∀ G' H', Tr O G H G' H' → Hold c T O G' σ H' ρ' → W e σ H'
  | .bad => False
end

theorem impPE {X : Cx} {e : Expr} {t t' : TE} (h : PE X e t) (i : ∀ σ H Q, t' σ H Q → t σ H Q) : PE X e t' := ⟨fun pins s σ H Q I q => h.run pins s σ H Q I (i σ H Q q)⟩
theorem impPT {X : Cx} {e : Expr} {t t' : TT} (h : PT X e t) (i : ∀ σ H Q, t' σ H Q → t σ H Q) : PT X e t' := ⟨fun pins s σ H Q I q => h.run pins s σ H Q I (i σ H Q q)⟩
theorem impPW {X : Cx} {e : Expr} {t t' : TT} (h : PW X e t) (i : ∀ σ H Q, t' σ H Q → t σ H Q) : PW X e t' := ⟨fun wh pins s σ H Q I q => h.run wh pins s σ H Q I (i σ H Q q)⟩
theorem impPA {X : Cx} {e : List Expr} {t t' : TA} (h : PA X e t) (i : ∀ σ H Q, t' σ H Q → t σ H Q) : PA X e t' := ⟨fun pos pins s σ H Q I q => h.run pos pins s σ H Q I (i σ H Q q)⟩
theorem impPS {X : Cx} {e : Stmt} {t t' : TS} (h : PS X e t) (i : ∀ D σ H, t' D σ H → t D σ H) : PS X e t' := ⟨fun pins s σ H D I q => h.run pins s σ H D I (i D σ H q)⟩
theorem impPSs {X : Cx} {e : List Stmt} {t t' : TS} (h : PSs X e t) (i : ∀ D σ H, t' D σ H → t D σ H) : PSs X e t' := ⟨fun pins s σ H D I q => h.run pins s σ H D I (i D σ H q)⟩

/-! ### results -/
def Res.bind {α β : Type} (r : Res α) (f : α → Ev → Res β) : Res β := match r with
  | .ok a ρ => f a ρ
  | .exc c ρ => .exc c ρ
  | .bad => .bad
@[simp] theorem Res.bind_ok {α β : Type} (a : α) (ρ : Ev) (f : α → Ev → Res β) : Res.bind (.ok a ρ) f = f a ρ := Eq.trans rfl rfl
@[simp] theorem Res.bind_exc {α β : Type} (a : Str) (ρ : Ev) (f : α → Ev → Res β) : Res.bind (.exc a ρ) f = .exc a ρ := rfl
@[simp] theorem Res.bind_bad {α β : Type} (f : α → Ev → Res β) : Res.bind .bad f = .bad := rfl
def Res.ofO {α : Type} (o : Option α) (ρ : Ev) : Res α := match o with
  | some a => .ok a ρ
  | none => .bad
@[simp] theorem Res.ofO_some {α : Type} (a : α) (ρ : Ev) : Res.ofO (some a) ρ = .ok a ρ := Eq.trans rfl rfl
@[simp] theorem Res.ofO_none {α : Type} (ρ : Ev) : Res.ofO (none : Option α) ρ = .bad := rfl

/-! ### operands: a name is looked at behind all other operands; anything else is frozen -/
inductive Opd where
  | nm (i : Nat)
  | ex (f : M Sl)
def Opd.ph1 : Opd → M (Option D)
  | .nm i => fun ρ => match ρ[i]? with
    | some (some _) => .ok none ρ
    | _ => .bad
  | .ex f => fun ρ => (f ρ).bind fun r ρ' => .ok (some r.frz) ρ'
def Opd.ph2 : Opd → Option D → Ev → Option D
  | .nm i, _, ρ => match ρ[i]? with
    | some (some s) => some s.frz
    | _ => none
  | .ex _, d, _ => d
def ph1s : List Opd → M (List (Option D))
  | [] => fun ρ => .ok [] ρ
  | A :: As => fun ρ => (A.ph1 ρ).bind fun x ρ1 => (ph1s As ρ1).bind fun xs ρ2 => .ok (x :: xs) ρ2
def ph2s : List Opd → List (Option D) → Ev → Option (List D)
  | [], _, _ => some []
  | A :: As, x :: xs, ρ => (A.ph2 x ρ).bind fun d => (ph2s As xs ρ).map (d :: ·)
  | _ :: _, [], _ => none
/-- an operation on operands -/
def sN (p : List D → Option Sl) (As : List Opd) : M Sl := fun ρ => (ph1s As ρ).bind fun xs ρ' => Res.ofO ((ph2s As xs ρ').bind p) ρ'
def bN (p : List D → Option Bool) (As : List Opd) : M Bool := fun ρ => (ph1s As ρ).bind fun xs ρ' => Res.ofO ((ph2s As xs ρ').bind p) ρ'

/-- a value seen: frozen, or an owned object as it stands -/
def Vw (c : Cn) (G H : Hp) (v : V) (d : D) : Prop := Rep c G v d ∨ ∃ a o, v = .ref a ∧ G a = none ∧ ObAt c G H a o ∧ d = o.frz
inductive Vws (c : Cn) (G H : Hp) : List V → List D → Prop
  | nil : Vws c G H [] []
  | cons {v : V} {vs : List V} {d : D} {ds : List D} : Vw c G H v d → Vws c G H vs ds → Vws c G H (v :: vs) (d :: ds)
/-- an operand's value, known now or by its slot -/
def OpV (c : Cn) (G : Hp) (σ : St) (A : Opd) (x : Option D) (v : V) : Prop := match A with
  | .nm i => σ[i]? = some (some v)
  | .ex _ => ∃ d, x = some d ∧ Rep c G v d
theorem OpV.mono {c : Cn} {G G' : Hp} {σ : St} {A : Opd} {x : Option D} {v : V} (h : OpV c G σ A x v) (s : Same G G') : OpV c G' σ A x v := by
  cases A with
  | nm i => exact h
  | ex f => obtain ⟨d, e, r⟩ := h; exact ⟨d, e, r.mono s⟩
section
variable {c : Cn} {T : Fx} {W : WX} {O : Addr → Prop} {G H : Hp} {σ : St} {ρ : Ev}
theorem OpV.view {A : Opd} {x : Option D} {v : V} {d : D} (h : OpV c G σ A x v) (hold : Hold c T O G σ H ρ) (e : A.ph2 x ρ = some d) : Vw c G H v d := by
  cases A with
  | nm i =>
    unfold Opd.ph2 at e
    simp only at e
    split at e
    · rename_i s hs
      cases e
      obtain ⟨v', e1, q⟩ := hold.slot i s hs
      rw [show σ[i]? = some (some v) from h] at e1
      cases e1
      cases s with
      | val d => exact .inl q
      | own o => obtain ⟨a, rfl, _, hg, q⟩ := q; exact .inr ⟨a, o, rfl, hg, q, rfl⟩
    · cases e
  | ex f =>
    obtain ⟨d', rfl, r⟩ := h
    cases (show some d' = some d from e)
    exact .inl r
/-- operands of an expression -/
def PO' (X : Cx) (T : Fx) (W : WX) (e : Expr) (A : Opd) : Prop := match A with
  | .nm i => PE X e (tVar i)
  | .ex f => PE X e (dT (cnOf X) T W f)
def tO (c : Cn) (T : Fx) (W : WX) : Opd → TE
  | .nm i => tVar i
  | .ex f => dT c T W f
theorem PO'.pe {X : Cx} {e : Expr} {A : Opd} (h : PO' X T W e A) : PE X e (tO (cnOf X) T W A) := by
  cases A <;> exact h
theorem Hold.frzR {v : V} {r : Sl} {H0 : Hp} {G0 : Hp} (h : Hold c T O G σ H ρ) (h0 : ∀ a, O a → H0 a ≠ none) (tr : Tr O G0 H0 G H) (q : RepR c H0 G H v r) : ∃ G', Same G G' ∧ Tr O G0 H0 G' H ∧ Hold c T O G' σ H ρ ∧ Rep c G' v r.frz := by
  cases r with
  | val d => exact ⟨G, fun _ _ h => h, tr, h, q⟩
  | own o =>
    obtain ⟨a, rfl, e0, hg, q⟩ := q
    obtain ⟨G', s1, s2, s3, s4, s5⟩ := h.freeze (fun z => h0 a z e0) hg q
    refine ⟨G', s2, ⟨fun b u e => s2 b u (tr.g b u e), tr.k, fun b u e => ?_, tr.d, tr.t⟩, s4, s5⟩
    by_cases z : b = a
    · subst z; exact .inr (.inl e0)
    · rw [s1 b z] at e; exact tr.n b u e
theorem opd_step {A : Opd} {Q : VK} (hold : Hold c T O G σ H ρ) (h : match A.ph1 ρ with
    | .ok x ρ' => ∀ v G' H', Tr O G H G' H' → Hold c T O G' σ H' ρ' → OpV c G' σ A x v → Q v H'
    | .exc e ρ' => ∀ G' H', Tr O G H G' H' → Hold c T O G' σ H' ρ' → W e σ H'
    | .bad => False) : tO c T W A σ H Q := by
  cases A with
  | nm i =>
    unfold Opd.ph1 at h
    simp only at h
    cases e : ρ[i]? with
    | none => rw [e] at h; exact h.elim
    | some o =>
      cases o with
      | none => rw [e] at h; exact h.elim
      | some s =>
        rw [e] at h
        obtain ⟨v, e1, _⟩ := hold.slot i s e
        exact ⟨v, e1, h v G H .refl hold e1⟩
  | ex f =>
    unfold Opd.ph1 at h
    simp only at h
    refine ⟨O, G, ρ, hold, ?_⟩
    cases e : f ρ with
    | ok r ρ' =>
      rw [e] at h
      intro v G' H' tr hold' q
      obtain ⟨G2, s, tr2, hold2, r2⟩ := hold'.frzR hold.oin tr q
      exact h v G2 H' tr2 hold2 ⟨_, rfl, r2⟩
    | exc x ρ' => rw [e] at h; exact h
    | bad => rw [e] at h; exact h
/-- two operands, then by views -/
theorem opd2 {A B : Opd} {p : List D → Option Sl} {Q : VK} {R : V → V → Hp → Prop} (h : dT c T W (sN p [A, B]) σ H Q)
    (k : ∀ O G ρ G1 H1 v w d e r, Hold c T O G σ H ρ → Tr O G H G1 H1 → Vw c G1 H1 v d → Vw c G1 H1 w e → p [d, e] = some r → (∀ a o, G1 a = some o → H1 a = some o) → (∀ a ps, G1 a ≠ some (.tbl ps)) →
      (∀ u G' H', TrN G1 H1 G' H' → RepR c H1 G' H' u r → Q u H') → R v w H1) :
    tO c T W A σ H fun v H1 => tO c T W B σ H1 fun w H2 => R v w H2 := by
  obtain ⟨O, G, ρ, hold, h⟩ := h
  unfold sN ph1s at h
  refine opd_step hold ?_
  cases e1 : A.ph1 ρ with
  | bad => rw [e1] at h; exact h
  | exc x ρ' => rw [e1] at h; exact h
  | ok x ρ1 =>
    rw [e1] at h
    intro v G1 H1 tr1 hold1 ov1
    refine opd_step hold1 ?_
    unfold ph1s at h
    simp only [Res.bind_ok] at h
    cases e2 : B.ph1 ρ1 with
    | bad => rw [e2] at h; exact h
    | exc x ρ' => rw [e2] at h; exact fun G' H' tr hd => h G' H' (tr1.trans' tr) hd
    | ok y ρ2 =>
      rw [e2] at h
      intro w G2 H2 tr2 hold2 ov2
      unfold ph1s at h
      simp only [Res.bind_ok, ph2s] at h
      cases q1 : A.ph2 x ρ2 with
      | none => rw [q1] at h; exact h.elim
      | some d =>
        cases q2 : B.ph2 y ρ2 with
        | none => rw [q1, q2] at h; exact h.elim
        | some e =>
          rw [q1, q2] at h
          simp only [Option.bind_some, Option.map_some] at h
          cases q3 : p [d, e] with
          | none => rw [q3] at h; exact h.elim
          | some r =>
            rw [q3] at h
            refine k O G ρ G2 H2 v w d e r hold (tr1.trans' tr2) ((ov1.mono tr2.g).view hold2 q1) (ov2.view hold2 q2) q3 hold2.sub hold2.ntb fun u G' H' tn rr => ?_
            refine h u G' H' ((tr1.trans' tr2).trans' tn.tr) (hold2.trn tn) ?_
            cases r with
            | val d => exact rr
            | own o =>
              obtain ⟨a, rfl, n0, q⟩ := rr
              exact ⟨a, rfl, (tr1.trans' tr2).d a n0, q⟩
theorem opd1 {A : Opd} {p : List D → Option Sl} {Q : VK} {R : V → Hp → Prop} (h : dT c T W (sN p [A]) σ H Q)
    (k : ∀ G1 H1 v d r, Vw c G1 H1 v d → p [d] = some r → (∀ a o, G1 a = some o → H1 a = some o) → (∀ a ps, G1 a ≠ some (.tbl ps)) →
      (∀ u G' H', TrN G1 H1 G' H' → RepR c H1 G' H' u r → Q u H') → R v H1) :
    tO c T W A σ H fun v H1 => R v H1 := by
  obtain ⟨O, G, ρ, hold, h⟩ := h
  unfold sN ph1s at h
  refine opd_step hold ?_
  cases e1 : A.ph1 ρ with
  | bad => rw [e1] at h; exact h
  | exc x ρ' => rw [e1] at h; exact h
  | ok x ρ1 =>
    rw [e1] at h
    intro v G1 H1 tr1 hold1 ov1
    unfold ph1s at h
    simp only [Res.bind_ok, ph2s] at h
    cases q1 : A.ph2 x ρ1 with
    | none => rw [q1] at h; exact h.elim
    | some d =>
      rw [q1] at h
      simp only [Option.bind_some, Option.map_some] at h
      cases q3 : p [d] with
      | none => rw [q3] at h; exact h.elim
      | some r =>
        rw [q3] at h
        refine k G1 H1 v d r (ov1.view hold1 q1) q3 hold1.sub hold1.ntb fun u G' H' tn rr => ?_
        refine h u G' H' (tr1.trans' tn.tr) (hold1.trn tn) ?_
        cases r with
        | val d => exact rr
        | own o =>
          obtain ⟨a, rfl, n0, q⟩ := rr
          exact ⟨a, rfl, tr1.d a n0, q⟩
end

/-- a two-place rule by values serves the data-level function p -/
def Op2 (c : Cn) (r : R2) (p : D → D → Option Sl) : Prop := ∀ G H v w d e s Q, (∀ a o, G a = some o → H a = some o) → (∀ a ps, G a ≠ some (.tbl ps)) → Vw c G H v d → Vw c G H w e → p d e = some s →
  (∀ u G' H', TrN G H G' H' → RepR c H G' H' u s → Q u H') → r v w H Q
def Op1 (c : Cn) (r : V → Hp → VK → Prop) (p : D → Option Sl) : Prop := ∀ G H v d s Q, (∀ a o, G a = some o → H a = some o) → (∀ a ps, G a ≠ some (.tbl ps)) → Vw c G H v d → p d = some s →
  (∀ u G' H', TrN G H G' H' → RepR c H G' H' u s → Q u H') → r v H Q
def on2 (p : D → D → Option Sl) : List D → Option Sl
  | [d, e] => p d e
  | _ => none
def on1 (p : D → Option Sl) : List D → Option Sl
  | [d] => p d
  | _ => none
def sOp2 (p : D → D → Option Sl) (A B : Opd) : M Sl := sN (on2 p) [A, B]
def sOp1 (p : D → Option Sl) (A : Opd) : M Sl := sN (on1 p) [A]
section
variable {X : Cx} {T : Fx} {W : WX} {a b : Expr} {A B : Opd} {pos : Pos}
theorem pe_op2 {op : Operator} {r : R2} {p : D → D → Option Sl} (ho : OpR X (binaryOp op) r) (hp : Op2 (cnOf X) r p) (ha : PO' X T W a A) (hb : PO' X T W b B) : PE X (.BinOp a op b pos) (dT (cnOf X) T W (sOp2 p A B)) :=
  impPE (pe_op ho ha.pe hb.pe) fun σ H Q h => opd2 h fun O G ρ G1 H1 v w d e s _ _ hv hw hs g1 g2 k => hp G1 H1 v w d e s Q g1 g2 hv hw hs k
theorem pe_cmp2 {op : CmpOp} {r : R2} {p : D → D → Option Sl} (ho : OpR X (compareOp op) r) (hm : behindInMarks op b = false) (hp : Op2 (cnOf X) r p) (ha : PO' X T W a A) (hb : PO' X T W b B) : PE X (.Compare a [op] [b] pos) (dT (cnOf X) T W (sOp2 p A B)) :=
  impPE (pe_cmpR ho ha.pe hb.pe hm) fun σ H Q h => opd2 h fun O G ρ G1 H1 v w d e s _ _ hv hw hs g1 g2 k => hp G1 H1 v w d e s Q g1 g2 hv hw hs k
theorem pe_un1 {op : UnaryOp} {r : V → Hp → VK → Prop} {p : D → Option Sl} (ho : UnR X (unaryOp op) r) (hp : Op1 (cnOf X) r p) (ha : PO' X T W a A) : PE X (.UnaryOp op a pos) (dT (cnOf X) T W (sOp1 p A)) :=
  impPE (pe_un ho ha.pe) fun σ H Q h => opd1 h fun G1 H1 v d s hv hs g1 g2 k => hp G1 H1 v d s Q g1 g2 hv hs k
end
end Sd
set_option Elab.async false
set_option linter.all false
set_option maxRecDepth 100000
set_option maxHeartbeats 4000000
set_option autoImplicit false
/-! Sd: comprehensions with any number of clauses: the turns. -/
namespace Sd
open PySem PySem.Spec PyProof.Rows L2

/-- a list or dict comprehension: its turns, by the depth -/
structure CE (e : Expr) (gens : List Comprehension) (emit : Value → PySem.Env → Sem Unit) : Prop where
  tin : ∀ (k : Nat) (t i : Expr) (ifs : List Expr), gens[k]? = some ⟨t, i, ifs, 0⟩ → gens[k + 1]? = none → ∀ (it acc : Value) (env : PySem.Env),
    compTurn e k it acc env = (do
      standAt i.pos
      match ← pyNext it with
      | none => pure (.done .next)
      | some v =>
        letOwnedTupleGo t it v
        assign t env v
        let mut ok := true
        for c in ifs do
          if ok then ok ← PySem.isTrue c env (eval c env)
        if ok then emit acc env
        again (.compLoop e k it acc env))
  tout : ∀ (k : Nat) (t i t1 i1 : Expr) (ifs ifs1 : List Expr), gens[k]? = some ⟨t, i, ifs, 0⟩ → gens[k + 1]? = some ⟨t1, i1, ifs1, 0⟩ → ∀ (it acc : Value) (env : PySem.Env),
    compTurn e k it acc env = (do
      standAt i.pos
      match ← pyNext it with
      | none => pure (.done .next)
      | some v =>
        letOwnedTupleGo t it v
        assign t env v
        let mut ok := true
        for c in ifs do
          if ok then ok ← PySem.isTrue c env (eval c env)
        if ok then
          let x ← eval i1 env
          standAt i1.pos
          let x ← foldedSetIterable i1 env x
          let _ ← runOwn (.compStart e (k + 1) (← holding [x] (pyIter x)) acc env) env
        again (.compLoop e k it acc env))
  den : ∀ (M : Program) (w : World) (k : Nat) (it acc : Value) (env : PySem.Env), (model M w).den (.compLoop e k it acc env) = (compTurn e k it acc env).onRaise (fun x => do noteFrame x env; theTreesLotGoes x)
  denS : ∀ (M : Program) (w : World) (k : Nat) (it acc : Value) (env : PySem.Env), (model M w).den (.compStart e k it acc env) = (compStart e k it acc env).onRaise (fun x => do noteFrame x env; standAt theWindowsPlace)
  cls : clausesOf e = gens
  qui : ∀ (k : Nat) (it acc : Value) (env : PySem.Env), (Code.compLoop e k it acc env).quiet = true
  und : ∀ (A : Around) (k : Nat) (it acc : Value) (env : PySem.Env), A.under (Code.compLoop e k it acc env) = A
  undS : ∀ (A : Around) (k : Nat) (it acc : Value) (env : PySem.Env), A.under (Code.compStart e k it acc env) = A

theorem ce_list (elt : Expr) (gens : List Comprehension) (scope : Scope) (pos : Pos) : CE (.ListComp elt gens scope pos) gens fun acc env => do let _ ← call (.builtin "list.append") [acc, ← eval elt env] where
  tin := fun k t i ifs hk hk1 it acc env => by
    unfold compTurn
    simp only [hk, hk1]
    rfl
  tout := fun k t i t1 i1 ifs ifs1 hk hk1 it acc env => by
    unfold compTurn
    simp only [hk, hk1]
    rfl
  den := fun _ _ _ _ _ _ => rfl
  denS := fun _ _ _ _ _ _ => rfl
  cls := rfl
  qui := fun _ _ _ _ => rfl
  und := fun _ _ _ _ _ => rfl
  undS := fun _ _ _ _ _ => rfl
def emitD (k v : Expr) : Value → PySem.Env → Sem Unit := fun acc env => do
  let kv ← eval k env
  let vv ← holding [kv] (eval v env)
  match acc with
  | .ref d => do
    standAt { k.pos with endLine := v.pos.endLine, endCol := v.pos.endCol }
    holding [kv, vv] (dictSet d kv vv)
  | _ => unsupported "internal:dictcomp"
theorem ce_dict (k v : Expr) (gens : List Comprehension) (scope : Scope) (pos : Pos) : CE (.DictComp k v gens scope pos) gens (emitD k v) where
  tin := fun k t i ifs hk hk1 it acc env => by
    unfold compTurn
    simp only [hk, hk1]
    rfl
  tout := fun k t i t1 i1 ifs ifs1 hk hk1 it acc env => by
    unfold compTurn
    simp only [hk, hk1]
    rfl
  den := fun _ _ _ _ _ _ => rfl
  denS := fun _ _ _ _ _ _ => rfl
  cls := rfl
  qui := fun _ _ _ _ => rfl
  und := fun _ _ _ _ _ => rfl
  undS := fun _ _ _ _ _ => rfl

section
variable {prog : Program} {w : World} {A : Around} {R : Result → Shared → Prop} {s : Shared} {e : Expr} {gens : List Comprehension} {emit : Value → PySem.Env → Sem Unit} {k : Nat} {t i t1 i1 : Expr} {ifs ifs1 : List Expr} {it acc : Value} {env : PySem.Env}
/-- a clause with another one within -/
theorem compLoop_out (C : CE e gens emit) (hk : gens[k]? = some ⟨t, i, ifs, 0⟩) (hk1 : gens[k + 1]? = some ⟨t1, i1, ifs1, 0⟩) (hs : ∀ x, foldedSetIterable i1 env x = pure x) (I : Nat → Shared → Prop)
    (turn : ∀ n s, I n s → wpAny (model prog w) A (pyNext it) (fun r s₁ => match r with
      | none => R (.ok .next) s₁
      | some v => wpAny (model prog w) A (letOwnedTupleGo t it v) (fun _ s₁' => wpAny (model prog w) A (assign t env v) (fun _ s₂ =>
          wpAny (model prog w) A (forIn ifs true fun c r => if r = true then do let ok ← PySem.isTrue c env (eval c env); pure (ForInStep.yield ok) else pure (ForInStep.yield r)) (fun ok s₃ =>
            if ok = true then wpAny (model prog w) A (eval i1 env) (fun x s₄ => wpAny (model prog w) A (pyIter x) (fun it1 s₅ =>
              codeAny (model prog w) A (.compStart e (k + 1) it1 acc env) (fun r s' => match r with
                | .ok _ => ∃ m, m < n ∧ I m s'
                | .error _ => False) s₅) (notedBy (model prog w) A env fun e s' => R (.error e) s') s₄) (notedBy (model prog w) A env fun e s' => R (.error e) s') s₃
            else ∃ m, m < n ∧ I m s₃) (notedBy (model prog w) A env fun e s' => R (.error e) s') s₂) (notedBy (model prog w) A env fun e s' => R (.error e) s') s₁') (notedBy (model prog w) A env fun e s' => R (.error e) s') s₁) (notedBy (model prog w) A env fun e s' => R (.error e) s') s)
    (n : Nat) (h : I n s) : codeAny (model prog w) A (.compLoop e k it acc env) R s := by
  refine codeAny_loop (C.qui ..) I (fun n s hI => ?_) n h
  rw [C.den, C.und]
  refine wpAny_noted ?_
  rw [C.tout k t i t1 i1 ifs ifs1 hk hk1]
  refine wpAny_bind (wpAny_standAt (wpAny_bind (wpAny_mono (turn n s hI) (fun r s₁ h₁ => ?_) fun _ _ h' => h')))
  cases r with
  | none => exact wpAny_pure h₁
  | some v =>
    refine wpAny_bind (wpAny_mono h₁ (fun _ s₁' h₁' => ?_) fun _ _ h' => h')
    refine wpAny_bind (wpAny_mono h₁' (fun _ s₂ h₂ => wpAny_bind (wpAny_mono h₂ (fun ok s₃ h₃ => ?_) fun _ _ h' => h')) fun _ _ h' => h')
    cases ok with
    | false => exact wpAny_pure ⟨rfl, h₃⟩
    | true =>
      refine wpAny_bind (wpAny_mono h₃ (fun x s₄ h₄ => ?_) fun _ _ h' => h')
      refine wpAny_bind (wpAny_standAt (wpAny_bind (wpAny_of_eq (hs x) (wpAny_bind (wpAny_holding (wpAny_mono h₄ (fun it1 s₅ h₅ => ?_) fun _ _ h' => h'))))))
      refine wpAny_bind (wpAny_runOwn ?_)
      rw [Around.mark_none]
      refine codeAny_mono h₅ fun r s' hr => ?_
      cases r with
      | ok f =>
        first
          | exact wpAny_pure ⟨rfl, hr⟩
          | exact wpAny_bind (wpAny_pure (wpAny_pure ⟨rfl, hr⟩))
      | error e => exact hr.elim
/-- the innermost clause -/
theorem compLoop_in (C : CE e gens emit) (hk : gens[k]? = some ⟨t, i, ifs, 0⟩) (hk1 : gens[k + 1]? = none) (I : Nat → Shared → Prop)
    (turn : ∀ n s, I n s → wpAny (model prog w) A (pyNext it) (fun r s₁ => match r with
      | none => R (.ok .next) s₁
      | some v => wpAny (model prog w) A (letOwnedTupleGo t it v) (fun _ s₁' => wpAny (model prog w) A (assign t env v) (fun _ s₂ =>
          wpAny (model prog w) A (forIn ifs true fun c r => if r = true then do let ok ← PySem.isTrue c env (eval c env); pure (ForInStep.yield ok) else pure (ForInStep.yield r)) (fun ok s₃ =>
            if ok = true then wpAny (model prog w) A (emit acc env) (fun _ s₅ => ∃ m, m < n ∧ I m s₅) (notedBy (model prog w) A env fun e s' => R (.error e) s') s₃
            else ∃ m, m < n ∧ I m s₃) (notedBy (model prog w) A env fun e s' => R (.error e) s') s₂) (notedBy (model prog w) A env fun e s' => R (.error e) s') s₁') (notedBy (model prog w) A env fun e s' => R (.error e) s') s₁) (notedBy (model prog w) A env fun e s' => R (.error e) s') s)
    (n : Nat) (h : I n s) : codeAny (model prog w) A (.compLoop e k it acc env) R s := by
  refine codeAny_loop (C.qui ..) I (fun n s hI => ?_) n h
  rw [C.den, C.und]
  refine wpAny_noted ?_
  rw [C.tin k t i ifs hk hk1]
  refine wpAny_bind (wpAny_standAt (wpAny_bind (wpAny_mono (turn n s hI) (fun r s₁ h₁ => ?_) fun _ _ h' => h')))
  cases r with
  | none => exact wpAny_pure h₁
  | some v =>
    refine wpAny_bind (wpAny_mono h₁ (fun _ s₁' h₁' => ?_) fun _ _ h' => h')
    refine wpAny_bind (wpAny_mono h₁' (fun _ s₂ h₂ => wpAny_bind (wpAny_mono h₂ (fun ok s₃ h₃ => ?_) fun _ _ h' => h')) fun _ _ h' => h')
    cases ok with
    | false => exact wpAny_pure ⟨rfl, h₃⟩
    | true => exact wpAny_bind (wpAny_mono h₃ (fun _ s₅ h₅ => wpAny_pure ⟨rfl, h₅⟩) fun _ _ h' => h')
/-- a clause's start -/
theorem compStart_of (C : CE e gens emit) (hk : gens[k]? = some ⟨t, i, ifs, 0⟩) (h0 : codeAny (model prog w) A (.compLoop e k it acc env) R s)
    (h : wpAny (model prog w) A (pyIter it) (fun it' s' => codeAny (model prog w) A (.compLoop e k it' acc env) R s') (notedBy (model prog w) A env fun x s' => R (.error x) s') s) :
    codeAny (model prog w) A (.compStart e k it acc env) R s := by
  refine codeAny_of_tree ?_
  rw [C.denS, C.undS]
  refine wpAny_notedAt ?_
  unfold compStart
  simp only [C.cls, hk]
  show wpAny _ _ (ask >>= _) _ _ s
  refine wpAny_bind (wpAny_askSetting (wpAny_ite ?_))
  have q := C.qui k it acc env
  have q2 : ∀ it', (Code.compLoop e k it' acc env).quiet = true := fun it' => C.qui k it' acc env
  split
  · first
      | exact wpAny_bind (wpAny_pure (wpAny_pure (And.intro q h0)))
      | exact wpAny_pure (And.intro q h0)
  · first
      | exact wpAny_bind (wpAny_rule (wpAny_bind (wpAny_standAt (wpAny_bind (wpAny_mono h (fun it' s' h' => wpAny_pure (And.intro (q2 it') h')) fun _ _ x => x)))))
      | (refine wpAny_bind (wpAny_rule ?_); show wpAny _ _ (standAt i.pos >>= _) _ _ s; exact wpAny_bind (wpAny_standAt (wpAny_bind (wpAny_mono h (fun it' s' h' => wpAny_pure (And.intro (q2 it') h')) fun _ _ x => x))))
end
end Sd
set_option Elab.async false
set_option linter.all false
set_option maxRecDepth 100000
set_option maxHeartbeats 4000000
set_option autoImplicit false
/-! Sd: targets, iterables, list comprehensions. -/
namespace Sd
open PySem PySem.Spec PyProof.Rows L2

inductive Tgt where
  | nm (i : Nat)
  | tup (ts : List Tgt)
mutual
def assignT : Tgt → D → Ev → Option Ev
  | .nm i, d, ρ => some (ρ.set i (some (.val d)))
  | .tup ts, .tuple ds, ρ => assignTs ts ds ρ
  | .tup _, _, _ => none
def assignTs : List Tgt → List D → Ev → Option Ev
  | [], [], ρ => some ρ
  | t :: ts, d :: ds, ρ => (assignT t d ρ).bind fun ρ' => assignTs ts ds ρ'
  | [], _ :: _, _ => none
  | _ :: _, [], _ => none
end
mutual
def Tgt.slots : Tgt → List Nat
  | .nm i => [i]
  | .tup ts => slotss ts
def slotss : List Tgt → List Nat
  | [] => []
  | t :: ts => t.slots ++ slotss ts
end
def wipeE (ρ : Ev) : List Nat → Ev
  | [] => ρ
  | v :: vs => (wipeE ρ vs).set v none
theorem wipeE_length (ρ : Ev) : ∀ vs : List Nat, (wipeE ρ vs).length = ρ.length
  | [] => rfl
  | v :: vs => by unfold wipeE; rw [List.length_set, wipeE_length ρ vs]
theorem wipeE_some {ρ : Ev} {i : Nat} {x : Sl} : ∀ {vs : List Nat}, (wipeE ρ vs)[i]? = some (some x) → ρ[i]? = some (some x) ∧ i ∉ vs
  | [], h => ⟨h, by simp⟩
  | v :: vs, h => by
    unfold wipeE at h
    rcases set_some_of h with ⟨_, e⟩ | ⟨hne, h⟩
    · cases e
    · obtain ⟨h1, h2⟩ := wipeE_some h
      exact ⟨h1, by simp only [List.mem_cons, not_or]; exact ⟨hne, h2⟩⟩

section
variable {c : Cn} {T : Fx} {W : WX} {O : Addr → Prop} {G H : Hp} {σ σ' : St} {ρ ρ' : Ev}
/-- fewer slots known -/
theorem Hold.weak (h : Hold c T O G σ H ρ) (hl : σ'.length = σ.length) (hr : ρ'.length = ρ.length) (hL : ∀ p ∈ T.L, σ'[p.1]? = some (some (.ref p.2)))
    (w : ∀ (i : Nat) s, ρ'[i]? = some (some s) → ρ[i]? = some (some s) ∧ σ'[i]? = σ[i]?) : Hold c T O G σ' H ρ' where
  sub := h.sub
  ntb := h.ntb
  oin := h.oin
  tab := h.tab
  lnt := hL
  len := by rw [hr, h.len, hl]
  slot := fun i s hi => by
    obtain ⟨h1, h2⟩ := w i s hi
    rw [h2]
    exact h.slot i s h1
  apart := fun i j o o' a hij hi hj ha => by
    obtain ⟨h1, h2⟩ := w i _ hi
    obtain ⟨h3, h4⟩ := w j _ hj
    rw [h4]
    rw [h2] at ha
    exact h.apart i j o o' a hij h1 h3 ha
theorem Hold.wiped (h : Hold c T O G σ' H ρ) {vs : List Nat} (hl : σ.length = σ'.length) (hL : ∀ p ∈ T.L, σ[p.1]? = some (some (.ref p.2))) (hs : ∀ i, i ∉ vs → σ'[i]? = σ[i]?) : Hold c T O G σ H (wipeE ρ vs) :=
  h.weak hl (wipeE_length _ _) hL fun i s e => by
    obtain ⟨h1, h2⟩ := wipeE_some e
    exact ⟨h1, (hs i h2).symm⟩
/-- a slot takes a datum -/
theorem Hold.setV {i : Nat} {v : V} {d : D} (h : Hold c T O G σ H ρ) (r : Rep c G v d) (hL : ∀ p ∈ T.L, p.1 ≠ i) : Hold c T O G (σ.set i (some v)) H (ρ.set i (some (.val d))) where
  sub := h.sub
  ntb := h.ntb
  oin := h.oin
  tab := h.tab
  lnt := fun p hp => by rw [List.getElem?_set_ne (Ne.symm (hL p hp))]; exact h.lnt p hp
  len := by rw [List.length_set, List.length_set]; exact h.len
  slot := fun j s hj => by
    rcases set_some_of hj with ⟨rfl, hs⟩ | ⟨hne, hj'⟩
    · cases hs
      refine ⟨v, ?_, r⟩
      have : j < (ρ.set j (some (Sl.val d))).length := (List.getElem?_eq_some_iff.mp hj).1
      rw [List.length_set, h.len] at this
      rw [List.getElem?_set_self this]
    · rw [List.getElem?_set_ne (Ne.symm hne)]
      exact h.slot j s hj'
  apart := fun j l o o' a hjl hj hl ha => by
    rcases set_some_of hj with ⟨_, hs⟩ | ⟨hne, hj⟩
    · cases hs
    · rcases set_some_of hl with ⟨_, hs⟩ | ⟨hne2, hl⟩
      · cases hs
      · rw [List.getElem?_set_ne (Ne.symm hne)] at ha
        rw [List.getElem?_set_ne (Ne.symm hne2)]
        exact h.apart j l o o' a hjl hj hl ha
end

section
variable (c : Cn) (T : Fx) (W : WX)
/-- the reading of a target -/
def dG (t : Tgt) : TG := fun v σ H Q => ∃ O G ρ d, Hold c T O G σ H ρ ∧ Rep c G v d ∧ ∃ ρ', assignT t d ρ = some ρ' ∧
  ∀ σ', (∀ i, i ∉ t.slots → σ'[i]? = σ[i]?) → σ'.length = σ.length → Hold c T O G σ' H ρ' → Q σ' H
def dGs (ts : List Tgt) : TGs := fun vs σ H Q => ∃ O G ρ ds, Hold c T O G σ H ρ ∧ Reps c G vs ds ∧ ∃ ρ', assignTs ts ds ρ = some ρ' ∧
  ∀ σ', (∀ i, i ∉ slotss ts → σ'[i]? = σ[i]?) → σ'.length = σ.length → Hold c T O G σ' H ρ' → Q σ' H
end
theorem impPG {X : Cx} {e : Expr} {t t' : TG} (h : PG X e t) (i : ∀ v σ H Q, t' v σ H Q → t v σ H Q) : PG X e t' := ⟨fun pins s σ H v u Q I r q => h.run pins s σ H v u Q I r (i v σ H Q q)⟩
theorem impPGs {X : Cx} {e : List Expr} {t t' : TGs} (h : PGs X e t) (i : ∀ v σ H Q, t' v σ H Q → t v σ H Q) : PGs X e t' := ⟨fun pins s σ H v u Q I r q => h.run pins s σ H v u Q I r (i v σ H Q q)⟩
def noStar : Expr → Bool
  | .Starred .. => false
  | _ => true
theorem starEach_cons {e : Expr} {es : List Expr} {env : PySem.Env} (h : noStar e = true) : starEach (e :: es) env = (false, eval e env) :: starEach es env := by
  cases e <;> first | rfl | (simp [noStar] at h)
theorem assignEach_cons {e : Expr} {es : List Expr} {env : PySem.Env} (h : noStar e = true) : assignEach (e :: es) env = (false, assign e env) :: assignEach es env := by
  cases e <;> first | rfl | (simp [noStar] at h)
theorem assignEach_length {env : PySem.Env} : ∀ es : List Expr, (assignEach es env).length = es.length
  | [] => rfl
  | e :: es => by
    have := assignEach_length (env := env) es
    cases e <;> simp [assignEach, this]
theorem assignEach_star {env : PySem.Env} : ∀ es : List Expr, es.all noStar = true → (assignEach es env).findIdx? (·.1) = none
  | [], _ => rfl
  | e :: es, h => by
    simp only [List.all_cons, Bool.and_eq_true] at h
    rw [assignEach_cons h.1, List.findIdx?_cons]
    simp [assignEach_star es h.2]
section
variable {X : Cx} {T : Fx} {W : WX}
theorem pg_nm {i : Nat} {x : Str} {pos : Pos} (hN : X.N.Nodup) (hi : X.N[i]? = some x) (hx : Loc X.env.scope x) (hf : X.fn x = true ∨ X.env.scope.names.lookup x = some .local) (hL : ∀ p ∈ T.L, p.1 ≠ i) : PG X (.Name x pos) (dG (cnOf X) T (.nm i)) :=
  impPG (pg_name hN hi hx hf) fun v σ H Q h => by
    obtain ⟨O, G, ρ, d, hold, r, ρ', e, k⟩ := h
    unfold assignT at e
    cases e
    refine k _ (fun j hj => ?_) (by rw [List.length_set]) (hold.setV r hL)
    rw [List.getElem?_set_ne]
    intro z
    subst z
    exact hj (by simp [Tgt.slots])
theorem pg_tp {es : List Expr} {kk : Nat} {pos : Pos} {ts : List Tgt} (hc : X.calm = true) (hst : es.all noStar = true) (h : PGs X es (dGs (cnOf X) T ts)) (hlen : es.length = ts.length) : PG X (.Tuple es kk pos) (dG (cnOf X) T (.tup ts)) := by
  refine impPG (pg_tup (n := es.length) hc h (assignEach_length es) (assignEach_star es hst)) fun v σ H Q h => ?_
  obtain ⟨O, G, ρ, d, hold, r, ρ', e, k⟩ := h
  cases d with
  | tuple ds =>
    unfold assignT at e
    cases r with
    | tup q rs =>
      rename_i a vs
      refine ⟨a, vs, rfl, sqt_mono hold.sub q, ?_, O, G, ρ, ds, hold, rs, ρ', e, k⟩
      rw [rs.length, hlen]
      have : ∀ (ts : List Tgt) (ds : List D) (ρ ρ' : Ev), assignTs ts ds ρ = some ρ' → ds.length = ts.length := by
        intro ts
        induction ts with
        | nil => intro ds ρ ρ' h; cases ds <;> simp [assignTs] at h ⊢
        | cons t ts ih =>
          intro ds ρ ρ' h
          cases ds with
          | nil => simp [assignTs] at h
          | cons d ds =>
            simp only [assignTs] at h
            cases q : assignT t d ρ with
            | none => rw [q] at h; cases h
            | some ρ1 =>
              rw [q] at h
              simp only [List.length_cons]
              rw [ih ds ρ1 ρ' h]
      exact this _ _ _ _ e
  | _ => simp [assignT] at e
theorem pgs_n : PGs X [] (dGs (cnOf X) T []) := impPGs pgs_nil fun vs σ H Q h => by
  obtain ⟨O, G, ρ, ds, hold, r, ρ', e, k⟩ := h
  cases r with
  | nil =>
    simp only [assignTs] at e
    cases e
    exact ⟨rfl, k σ (fun _ _ => rfl) rfl hold⟩
  | cons _ _ => simp [assignTs] at e
theorem pgs_c {e : Expr} {es : List Expr} {t : Tgt} {ts : List Tgt} (hst : noStar e = true) (h1 : PG X e (dG (cnOf X) T t)) (h2 : PGs X es (dGs (cnOf X) T ts)) : PGs X (e :: es) (dGs (cnOf X) T (t :: ts)) :=
  impPGs (pgs_cons h1 h2 (by rw [assignEach_cons hst]; rfl)) fun vs σ H Q h => by
    obtain ⟨O, G, ρ, ds, hold, r, ρ', e, k⟩ := h
    cases r with
    | nil => simp [assignTs] at e
    | cons r rs =>
      rename_i v vs d ds
      simp only [assignTs] at e
      cases q : assignT t d ρ with
      | none => rw [q] at e; cases e
      | some ρ1 =>
        rw [q] at e
        refine ⟨v, vs, rfl, O, G, ρ, d, hold, r, ρ1, q, fun σ1 hs1 hl1 hold1 => ?_⟩
        refine ⟨O, G, ρ1, ds, hold1, rs, ρ', e, fun σ2 hs2 hl2 hold2 => ?_⟩
        refine k σ2 (fun i hi => ?_) (hl2.trans hl1) hold2
        simp only [slotss, List.mem_append, not_or] at hi
        rw [hs2 i hi.2, hs1 i hi.1]
end

/-! ### iterables -/
/-- an iterator that hands out the items -/
structure IterOk (c : Cn) (J : It) (G0 : Hp) (items : List D) : Prop where
  go : ∀ (G H : Hp) (i : Nat), Same G0 G → Same G H → i < items.length → J.go i H
  yld : ∀ (G H : Hp) (i : Nat) (x : V) (H' : Hp), Same G0 G → Same G H → (∀ a ps, G a ≠ some (.tbl ps)) → i < items.length → J.yld i H x H' → ∃ d G', items[i]? = some d ∧ TrN G H G' H' ∧ Rep c G' x d
  stop : ∀ (G H : Hp) (i : Nat), Same G0 G → Same G H → items.length ≤ i → J.stop i H
theorem IterOk.mono {c : Cn} {J : It} {G0 G1 : Hp} {items : List D} (h : IterOk c J G0 items) (s : Same G0 G1) : IterOk c J G1 items :=
  ⟨fun G H i a b d => h.go G H i (s.trans a) b d, fun G H i x H' a b e l d => h.yld G H i x H' (s.trans a) b e l d, fun G H i a b d => h.stop G H i (s.trans a) b d⟩
def dI (c : Cn) (T : Fx) (W : WX) (f : M (List D)) : TI := fun σ H R => ∃ O G ρ, Hold c T O G σ H ρ ∧ match f ρ with
  | .ok items ρ' => ∀ J G' H', Tr O G H G' H' → Hold c T O G' σ H' ρ' → IterOk c J G' items → R J H'
  | .exc e ρ' => ∀ G' H', Tr O G H G' H' → Hold c T O G' σ H' ρ' → W e σ H'
  | .bad => False
theorem impPI {X : Cx} {tg e : Expr} {t t' : TI} (h : PI X tg e t) (i : ∀ σ H R, t' σ H R → t σ H R) : PI X tg e t' := ⟨fun pins s σ H R I q => h.run pins s σ H R I (i σ H R q)⟩

/-! ### comprehensions -/
structure DCl where
  it : M (List D)
  tg : Tgt
  cond : M Bool
def compItems {E : Type} (tg : Tgt) (cond : M Bool) (body : M (List E)) : List D → M (List E)
  | [] => fun ρ => .ok [] ρ
  | d :: ds => fun ρ => match assignT tg d ρ with
    | none => .bad
    | some ρ1 => (cond ρ1).bind fun b ρ2 => (if b = true then body ρ2 else .ok [] ρ2).bind fun xs ρ3 => (compItems tg cond body ds (wipeE ρ3 tg.slots)).bind fun ys ρ4 => .ok (xs ++ ys) ρ4
def compGo {E : Type} (emit : M (List E)) : List DCl → M (List E)
  | [] => emit
  | cl :: cls => fun ρ => (cl.it ρ).bind fun items ρ1 => compItems cl.tg cl.cond (compGo emit cls) items ρ1
def emit1 (f : M Sl) : M (List D) := fun ρ => (f ρ).bind fun r ρ' => .ok [r.frz] ρ'

/-- a clause in its block -/
structure ClOk (X : Cx) (T : Fx) (W : WX) (cl : Comprehension) (dc : DCl) : Prop where
  as : cl.is_async = 0
  pg : PG X cl.target (dG (cnOf X) T dc.tg)
  pt : PTs X cl.ifs (dB (cnOf X) T W dc.cond)
structure ClIn (X : Cx) (T : Fx) (W : WX) (cl : Comprehension) (dc : DCl) : Prop extends ClOk X T W cl dc where
  pi : PI X cl.target cl.iter (dI (cnOf X) T W dc.it)
  fd : ∀ x, foldedSetIterable cl.iter X.env x = pure x
inductive ClIns (X : Cx) (T : Fx) (W : WX) : List Comprehension → List DCl → Prop
  | nil : ClIns X T W [] []
  | cons {cl : Comprehension} {cls : List Comprehension} {dc : DCl} {dcs : List DCl} : ClIn X T W cl dc → ClIns X T W cls dcs → ClIns X T W (cl :: cls) (dc :: dcs)
def allSlots : List DCl → List Nat
  | [] => []
  | d :: ds => d.tg.slots ++ allSlots ds

theorem TrN.ofTr {c : Cn} {T : Fx} {O : Addr → Prop} {G H : Hp} {σ : St} {ρ : Ev} (h : Hold c T O G σ H ρ) : Same G H := h.sub
end Sd
set_option Elab.async false
set_option linter.all false
set_option maxRecDepth 100000
set_option maxHeartbeats 4000000
set_option autoImplicit false
/-! Sd: list and dict comprehensions: the loops. -/
namespace Sd
open PySem PySem.Spec PyProof.Rows L2

/-- what a comprehension fills at Dd -/
structure Acc (Dd : Addr) (E : Type) where
  P : Hp → Hp → List E → Prop
  mono : ∀ {G G' H H' : Hp} {out : List E}, Same G G' → H' Dd = H Dd → P G H out → P G' H' out
  there : ∀ {G H : Hp} {out : List E}, P G H out → ∃ u, H Dd = some u ∧ ∀ ps, u ≠ .tbl ps
def LcAt (X : Cx) (T : Fx) (pins : List (Addr × Obj)) (O : Addr → Prop) (G0 H0 : Hp) (σ : St) (ρ : Ev) {Dd : Addr} {E : Type} (A : Acc Dd E) (out : List E) (s : Shared) : Prop :=
  ∃ H G, Inv X pins σ H s ∧ Hold (cnOf X) T O G σ H ρ ∧ Tr (fun a => O a ∨ a = Dd) G0 H0 G H ∧ G Dd = none ∧ A.P G H out
theorem thnX {α : Type} {t : Sem α} {Q Q' : α → Shared → Prop} {M : Model} {A : Around} {E E' : Value → Shared → Prop} {s : Shared} (h : wpAny M A t Q E s) (hE : ∀ e s, ¬ E e s) (hQ : ∀ a s, Q a s → Q' a s) : wpAny M A t Q' E' s :=
  wpAny_mono h hQ fun e s z => (hE e s z).elim
theorem Tr.keepD {O : Addr → Prop} {G H G' H' : Hp} {Dd : Addr} {u : HO} (t : Tr O G H G' H') (hO : ¬ O Dd) (hu : H Dd = some u) (ht : ∀ ps, u ≠ .tbl ps) (hg : G Dd = none) : H' Dd = some u ∧ G' Dd = none := by
  refine ⟨t.k Dd u hu hO ht, ?_⟩
  cases q : G' Dd with
  | none => rfl
  | some o =>
    rcases t.n Dd o q with z | z | z
    · rw [hg] at z; cases z
    · rw [hu] at z; cases z
    · exact (hO z).elim
section
variable {X : Cx} {T : Fx} {e : Expr} {gens : List Comprehension} {emitV : Value → PySem.Env → Sem Unit} {Dd : Addr} {E : Type} {A : Acc Dd E} {emit : M (List E)}
theorem Acc.step {O : Addr → Prop} {G H G' H' : Hp} {out : List E} (t : Tr O G H G' H') (hO : ¬ O Dd) (hg : G Dd = none) (p : A.P G H out) : A.P G' H' out ∧ G' Dd = none := by
  obtain ⟨u, hu, ht⟩ := A.there p
  obtain ⟨h1, h2⟩ := t.keepD hO hu ht hg
  exact ⟨A.mono t.g (h1.trans hu.symm) p, h2⟩
/-- what the element's emission does -/
def EmitOk (X : Cx) (T : Fx) (A : Acc Dd E) (emitV : Value → PySem.Env → Sem Unit) (emit : M (List E)) : Prop :=
  ∀ (pins : List (Addr × Obj)) (s : Shared) (σ : St) (H : Hp) (O : Addr → Prop) (G : Hp) (ρ : Ev) (out r : List E) (ρ' : Ev), Inv X pins σ H s → Hold (cnOf X) T O G σ H ρ → ¬ O Dd → G Dd = none → A.P G H out → emit ρ = .ok r ρ' → (out ++ r).length ≤ sizeLine →
    wpAny (model X.prog X.w) X.A (emitV (.ref Dd) X.env) (fun _ s' => LcAt X T pins O G H σ ρ' A (out ++ r) s') (fun _ _ => False) s

theorem loop_comp (C : CE e gens emitV) (hc : X.calm = true) (hxe : ∀ u s, ¬ X.xe u s) (hem : EmitOk X T A emitV emit) :
    ∀ (cls : List Comprehension) (dcs : List DCl) (cl : Comprehension) (dc : DCl) (k : Nat), (∀ j, gens[k + j]? = (cl :: cls)[j]?) → ClOk X T W0 cl dc → ClIns X T W0 cls dcs → (dc.tg.slots ++ allSlots dcs).Nodup →
    ∀ (pins : List (Addr × Obj)) (s : Shared) (σ : St) (H : Hp) (O : Addr → Prop) (G : Hp) (ρ : Ev) (out xs : List E) (ρ' : Ev) (items : List D) (it : Addr) (fp : List Addr) (tn : Nat → Heap → Prop) (J : It),
      Inv X pins σ H s → Hold (cnOf X) T O G σ H ρ → ¬ O Dd → G Dd = none → A.P G H out →
      Turn X.prog X.w X.K cl.target J fp it tn → tn 0 s.heap → (∀ b ∈ fp, FpOk X pins H b) → IterOk (cnOf X) J G items →
      (∀ i ∈ dc.tg.slots ++ allSlots dcs, ∀ v, σ[i]? ≠ some (some v)) →
      compItems dc.tg dc.cond (compGo emit dcs) items ρ = .ok xs ρ' → (out ++ xs).length ≤ sizeLine →
      codeAny (model X.prog X.w) X.A (.compLoop e k (.ref it) (.ref Dd) X.env) (fun r s' => match r with | .ok _ => LcAt X T pins O G H σ ρ' A (out ++ xs) s' | .error _ => False) s := by
  intro cls
  induction cls with
  | nil =>
    intro dcs cl dc k hk ok hin nd pins s σ H O G ρ out xs ρ' items it fp tn J I hold hO hg hp Tn st hf io hσ hce hz
    cases hin
    obtain ⟨t, i0, ifs, as⟩ := cl
    obtain ⟨has, pg, pt⟩ := ok
    cases has
    have hk0 : gens[k]? = some ⟨t, i0, ifs, 0⟩ := by have := hk 0; simpa using this
    have hk1 : gens[k + 1]? = none := by have := hk 1; simpa using this
    have fpok : ∀ H', (∀ b ∈ fp, H' b = none) → ∀ b ∈ fp, FpOk X pins H' b := fun H' hn b hb => ⟨hn b hb, (hf b hb).2⟩
    refine compLoop_in C hk0 hk1 (fun n s' => ∃ (i : Nat) (H' G' : Hp) (ρi : Ev) (ys zs : List E), n = items.length - i ∧ i ≤ items.length ∧ Inv X pins σ H' s' ∧ tn i s'.heap ∧ (∀ b ∈ fp, H' b = none) ∧ Hold (cnOf X) T O G' σ H' ρi ∧
      Tr (fun a => O a ∨ a = Dd) G H G' H' ∧ Same G G' ∧ G' Dd = none ∧ A.P G' H' (out ++ ys) ∧ compItems dc.tg dc.cond (compGo emit []) (items.drop i) ρi = .ok zs ρ' ∧ ys ++ zs = xs) ?_ items.length
      ⟨0, H, G, ρ, [], xs, by simp, Nat.zero_le _, I, st, fun b hb => (hf b hb).1, hold, .refl, fun _ _ h => h, hg, by simpa using hp, by simpa using hce, rfl⟩
    rintro n s' ⟨i, H', G', ρi, ys, zs, rfl, hi, I', st', fn', hold', tr', sg', hg', hp', hce', hxs⟩
    by_cases hlt : i < items.length
    · have hd : items.drop i = items[i] :: items.drop (i + 1) := List.drop_eq_getElem_cons hlt
      rw [hd] at hce'
      simp only [compItems] at hce'
      cases q1 : assignT dc.tg items[i] ρi with
      | none => rw [q1] at hce'; cases hce'
      | some ρ1 =>
      rw [q1] at hce'
      simp only at hce'
      refine thnX (Tn.item X rfl rfl rfl hc i pins s' σ H' (fun _ _ => False) I' (fpok H' fn') st' (io.go G' H' i sg' hold'.sub hlt)) (fun _ _ z => z) fun r s1 ⟨u, hr, h1⟩ => ?_
      subst hr
      refine thnX h1 (fun _ _ z => z) fun _ s2 ⟨x, H2, I2, r2, y2, st2, fn2⟩ => ?_
      obtain ⟨d, G2, hid, tn2, rep2⟩ := io.yld G' H' i x H2 sg' hold'.sub hold'.ntb hlt y2
      have hdd : d = items[i] := by rw [List.getElem?_eq_getElem hlt] at hid; exact (Option.some.inj hid).symm
      subst hdd
      have hold2 := hold'.trn tn2
      obtain ⟨p2, g2⟩ := Acc.step (O := O) tn2.tr hO hg' hp'
      have I2' := I2.pinned (fpok H2 fn2) (Tn.obj _ _ st2)
      refine thnX (pg.run _ s2 σ H2 x u (fun σ3 H3 => H3 = H2 ∧ (∀ j, j ∉ dc.tg.slots → σ3[j]? = σ[j]?) ∧ σ3.length = σ.length ∧ Hold (cnOf X) T O G2 σ3 H2 ρ1) I2' r2 ⟨O, G2, ρi, items[i], hold2, rep2, ρ1, q1, fun σ3 h1 h2 h3 => ⟨rfl, h1, h2, h3⟩⟩) hxe fun _ s3 ⟨σ3, H3, I3, e3, hs3, hl3, hold3⟩ => ?_
      subst e3
      -- the tests
      cases q2 : dc.cond ρ1 with
      | bad => rw [q2] at hce'; cases hce'
      | exc x ρx => rw [q2] at hce'; cases hce'
      | ok b ρ2 =>
      rw [q2] at hce'
      simp only [Res.bind_ok] at hce'
      refine thnX (pt.run _ s3 σ3 H3 (fun b' H4 => b' = b ∧ ∃ G4, Tr O G2 H3 G4 H4 ∧ Hold (cnOf X) T O G4 σ3 H4 ρ2) I3 ⟨O, G2, ρ1, hold3, by rw [q2]; exact fun G4 H4 t4 h4 => ⟨rfl, G4, t4, h4⟩⟩) hxe fun b' s4 ⟨H4, I4, e4, G4, tr4, hold4⟩ => ?_
      subst e4
      obtain ⟨p4, g4⟩ := Acc.step tr4 hO g2 p2
      have trA : Tr (fun a => O a ∨ a = Dd) G H G4 H4 := (tr'.trans' tn2.tr).trans' (tr4.wider fun _ h => .inl h)
      have sgA : Same G G4 := (sg'.trans tn2.g).trans tr4.g
      -- back at the turn's end
      have fin : ∀ {s5 : Shared} {ρ5 : Ev} {rs zs' : List E}, LcAt X T (pins ++ pinsAt fp s2.heap) O G4 H4 σ3 ρ5 A (out ++ ys ++ rs) s5 → compItems dc.tg dc.cond (compGo emit []) (items.drop (i + 1)) (wipeE ρ5 dc.tg.slots) = .ok zs' ρ' → ys ++ (rs ++ zs') = xs →
          ∃ m, m < items.length - i ∧ ∃ (i : Nat) (H' G' : Hp) (ρi : Ev) (ys zs : List E), m = items.length - i ∧ i ≤ items.length ∧ Inv X pins σ H' s5 ∧ tn i s5.heap ∧ (∀ b ∈ fp, H' b = none) ∧ Hold (cnOf X) T O G' σ H' ρi ∧
            Tr (fun a => O a ∨ a = Dd) G H G' H' ∧ Same G G' ∧ G' Dd = none ∧ A.P G' H' (out ++ ys) ∧ compItems dc.tg dc.cond (compGo emit []) (items.drop i) ρi = .ok zs ρ' ∧ ys ++ zs = xs := by
        rintro s5 ρ5 rs zs' ⟨H5, G5, I5, hold5, tr5, g5, p5⟩ hcz hxz
        have pin' : ∀ b ∈ fp, ∀ o, s2.heap.get? b = some o → s5.heap.get? b = some o ∧ H5 b = none := fun b hb o eo =>
          let z := I5.pin (b, o) (List.mem_append_right _ (List.mem_append_right _ (mem_pinsAt hb eo)))
          ⟨z.1, z.2.1⟩
        refine ⟨items.length - (i + 1), by omega, i + 1, H5, G5, wipeE ρ5 dc.tg.slots, ys ++ rs, zs', rfl, hlt, I5.unpinned.weak hl3.symm (fun j v ej => ?_), Tn.keep _ _ _ st2 fun b hb o eo => (pin' b hb o eo).1, fun b hb => ?_,
          hold5.wiped hl3.symm hold'.lnt hs3, trA.trans' tr5, sgA.trans tr5.g, g5, by rw [← List.append_assoc]; exact p5, hcz, by rw [List.append_assoc]; exact hxz⟩
        · rw [hs3 j (fun hj => hσ j (List.mem_append_left _ hj) v ej)]
          exact ej
        · obtain ⟨o, eo, _⟩ := Tn.obj _ _ st2 b hb
          exact (pin' b hb o eo).2
      cases b' with
      | false =>
        simp only [Bool.false_eq_true, if_false, Res.bind_ok, List.nil_append] at hce' ⊢
        cases q3 : compItems dc.tg dc.cond (compGo emit []) (items.drop (i + 1)) (wipeE ρ2 dc.tg.slots) with
        | bad => rw [q3] at hce'; cases hce'
        | exc x ρx => rw [q3] at hce'; cases hce'
        | ok zs' ρz =>
          rw [q3] at hce'
          simp only [Res.bind_ok] at hce'
          cases hce'
          exact fin (rs := []) (zs' := zs) ⟨H4, G4, I4, hold4, .refl, g4, by simpa using p4⟩ q3 (by simpa using hxs)
      | true =>
        simp only [if_true] at hce' ⊢
        cases q3 : (compGo emit [] : M (List E)) ρ2 with
        | bad => rw [q3] at hce'; cases hce'
        | exc x ρx => rw [q3] at hce'; cases hce'
        | ok rs ρ5 =>
          rw [q3] at hce'
          simp only [Res.bind_ok] at hce'
          cases q4 : compItems dc.tg dc.cond (compGo emit []) (items.drop (i + 1)) (wipeE ρ5 dc.tg.slots) with
          | bad => rw [q4] at hce'; cases hce'
          | exc x ρx => rw [q4] at hce'; cases hce'
          | ok zs' ρz =>
            rw [q4] at hce'
            simp only [Res.bind_ok] at hce'
            cases hce'
            have hzz : (out ++ ys ++ rs).length ≤ sizeLine := by
              rw [← hxs] at hz
              simp only [List.length_append] at hz ⊢
              omega
            exact thnX (hem _ s4 σ3 H4 O G4 ρ2 (out ++ ys) rs ρ5 I4 hold4 hO g4 p4 q3 hzz) (fun _ _ z => z) fun _ s5 h5 => fin h5 q4 hxs
    · have hi' : i = items.length := by omega
      subst hi'
      rw [List.drop_length] at hce'
      simp only [compItems] at hce'
      cases hce'
      refine thnX (Tn.done X rfl rfl rfl hc _ pins s' σ H' (fun _ _ => False) I' (fpok H' fn') st' (io.stop G' H' _ sg' hold'.sub (Nat.le_refl _))) (fun _ _ z => z) fun r s1 ⟨hr, I1⟩ => ?_
      subst hr
      have : ys = xs := by simpa using hxs
      subst this
      exact ⟨H', G', I1, hold', tr', hg', hp'⟩
  | cons cl1 cls ih =>
    intro dcs cl dc k hk ok hin nd pins s σ H O G ρ out xs ρ' items it fp tn J I hold hO hg hp Tn st hf io hσ hce hz
    cases hin with
    | cons hin1 hins =>
    rename_i dc1 dcs1
    obtain ⟨t, i0, ifs, as⟩ := cl
    obtain ⟨has, pg, pt⟩ := ok
    cases has
    obtain ⟨t1, i1, ifs1, as1⟩ := cl1
    obtain ⟨ok1, pi1, fd1⟩ := id hin1
    have has1 : as1 = 0 := ok1.as
    subst has1
    have hk0 : gens[k]? = some ⟨t, i0, ifs, 0⟩ := by have := hk 0; simpa using this
    have hk1 : gens[k + 1]? = some ⟨t1, i1, ifs1, 0⟩ := by have := hk 1; simpa using this
    have fpok : ∀ H', (∀ b ∈ fp, H' b = none) → ∀ b ∈ fp, FpOk X pins H' b := fun H' hn b hb => ⟨hn b hb, (hf b hb).2⟩
    refine compLoop_out C hk0 hk1 fd1 (fun n s' => ∃ (i : Nat) (H' G' : Hp) (ρi : Ev) (ys zs : List E), n = items.length - i ∧ i ≤ items.length ∧ Inv X pins σ H' s' ∧ tn i s'.heap ∧ (∀ b ∈ fp, H' b = none) ∧ Hold (cnOf X) T O G' σ H' ρi ∧
      Tr (fun a => O a ∨ a = Dd) G H G' H' ∧ Same G G' ∧ G' Dd = none ∧ A.P G' H' (out ++ ys) ∧ compItems dc.tg dc.cond (compGo emit (dc1 :: dcs1)) (items.drop i) ρi = .ok zs ρ' ∧ ys ++ zs = xs) ?_ items.length
      ⟨0, H, G, ρ, [], xs, by simp, Nat.zero_le _, I, st, fun b hb => (hf b hb).1, hold, .refl, fun _ _ h => h, hg, by simpa using hp, by simpa using hce, rfl⟩
    rintro n s' ⟨i, H', G', ρi, ys, zs, rfl, hi, I', st', fn', hold', tr', sg', hg', hp', hce', hxs⟩
    by_cases hlt : i < items.length
    · have hd : items.drop i = items[i] :: items.drop (i + 1) := List.drop_eq_getElem_cons hlt
      rw [hd] at hce'
      simp only [compItems] at hce'
      cases q1 : assignT dc.tg items[i] ρi with
      | none => rw [q1] at hce'; cases hce'
      | some ρ1 =>
      rw [q1] at hce'
      simp only at hce'
      refine thnX (Tn.item X rfl rfl rfl hc i pins s' σ H' (fun _ _ => False) I' (fpok H' fn') st' (io.go G' H' i sg' hold'.sub hlt)) (fun _ _ z => z) fun r s1 ⟨u, hr, h1⟩ => ?_
      subst hr
      refine thnX h1 (fun _ _ z => z) fun _ s2 ⟨x, H2, I2, r2, y2, st2, fn2⟩ => ?_
      obtain ⟨d, G2, hid, tn2, rep2⟩ := io.yld G' H' i x H2 sg' hold'.sub hold'.ntb hlt y2
      have hdd : d = items[i] := by rw [List.getElem?_eq_getElem hlt] at hid; exact (Option.some.inj hid).symm
      subst hdd
      have hold2 := hold'.trn tn2
      obtain ⟨p2, g2⟩ := Acc.step (O := O) tn2.tr hO hg' hp'
      have I2' := I2.pinned (fpok H2 fn2) (Tn.obj _ _ st2)
      refine thnX (pg.run _ s2 σ H2 x u (fun σ3 H3 => H3 = H2 ∧ (∀ j, j ∉ dc.tg.slots → σ3[j]? = σ[j]?) ∧ σ3.length = σ.length ∧ Hold (cnOf X) T O G2 σ3 H2 ρ1) I2' r2 ⟨O, G2, ρi, items[i], hold2, rep2, ρ1, q1, fun σ3 h1 h2 h3 => ⟨rfl, h1, h2, h3⟩⟩) hxe fun _ s3 ⟨σ3, H3, I3, e3, hs3, hl3, hold3⟩ => ?_
      subst e3
      cases q2 : dc.cond ρ1 with
      | bad => rw [q2] at hce'; cases hce'
      | exc x ρx => rw [q2] at hce'; cases hce'
      | ok b ρ2 =>
      rw [q2] at hce'
      simp only [Res.bind_ok] at hce'
      refine thnX (pt.run _ s3 σ3 H3 (fun b' H4 => b' = b ∧ ∃ G4, Tr O G2 H3 G4 H4 ∧ Hold (cnOf X) T O G4 σ3 H4 ρ2) I3 ⟨O, G2, ρ1, hold3, by rw [q2]; exact fun G4 H4 t4 h4 => ⟨rfl, G4, t4, h4⟩⟩) hxe fun b' s4 ⟨H4, I4, e4, G4, tr4, hold4⟩ => ?_
      subst e4
      obtain ⟨p4, g4⟩ := Acc.step tr4 hO g2 p2
      have trA : Tr (fun a => O a ∨ a = Dd) G H G4 H4 := (tr'.trans' tn2.tr).trans' (tr4.wider fun _ h => .inl h)
      have sgA : Same G G4 := (sg'.trans tn2.g).trans tr4.g
      have fin : ∀ {s5 : Shared} {ρ5 : Ev} {rs zs' : List E}, LcAt X T (pins ++ pinsAt fp s2.heap) O G4 H4 σ3 ρ5 A (out ++ ys ++ rs) s5 → compItems dc.tg dc.cond (compGo emit (dc1 :: dcs1)) (items.drop (i + 1)) (wipeE ρ5 dc.tg.slots) = .ok zs' ρ' → ys ++ (rs ++ zs') = xs →
          ∃ m, m < items.length - i ∧ ∃ (i : Nat) (H' G' : Hp) (ρi : Ev) (ys zs : List E), m = items.length - i ∧ i ≤ items.length ∧ Inv X pins σ H' s5 ∧ tn i s5.heap ∧ (∀ b ∈ fp, H' b = none) ∧ Hold (cnOf X) T O G' σ H' ρi ∧
            Tr (fun a => O a ∨ a = Dd) G H G' H' ∧ Same G G' ∧ G' Dd = none ∧ A.P G' H' (out ++ ys) ∧ compItems dc.tg dc.cond (compGo emit (dc1 :: dcs1)) (items.drop i) ρi = .ok zs ρ' ∧ ys ++ zs = xs := by
        rintro s5 ρ5 rs zs' ⟨H5, G5, I5, hold5, tr5, g5, p5⟩ hcz hxz
        have pin' : ∀ b ∈ fp, ∀ o, s2.heap.get? b = some o → s5.heap.get? b = some o ∧ H5 b = none := fun b hb o eo =>
          let z := I5.pin (b, o) (List.mem_append_right _ (List.mem_append_right _ (mem_pinsAt hb eo)))
          ⟨z.1, z.2.1⟩
        refine ⟨items.length - (i + 1), by omega, i + 1, H5, G5, wipeE ρ5 dc.tg.slots, ys ++ rs, zs', rfl, hlt, I5.unpinned.weak hl3.symm (fun j v ej => ?_), Tn.keep _ _ _ st2 fun b hb o eo => (pin' b hb o eo).1, fun b hb => ?_,
          hold5.wiped hl3.symm hold'.lnt hs3, trA.trans' tr5, sgA.trans tr5.g, g5, by rw [← List.append_assoc]; exact p5, hcz, by rw [List.append_assoc]; exact hxz⟩
        · rw [hs3 j (fun hj => hσ j (List.mem_append_left _ hj) v ej)]
          exact ej
        · obtain ⟨o, eo, _⟩ := Tn.obj _ _ st2 b hb
          exact (pin' b hb o eo).2
      cases b' with
      | false =>
        simp only [Bool.false_eq_true, if_false, Res.bind_ok, List.nil_append] at hce' ⊢
        cases q3 : compItems dc.tg dc.cond (compGo emit (dc1 :: dcs1)) (items.drop (i + 1)) (wipeE ρ2 dc.tg.slots) with
        | bad => rw [q3] at hce'; cases hce'
        | exc x ρx => rw [q3] at hce'; cases hce'
        | ok zs' ρz =>
          rw [q3] at hce'
          simp only [Res.bind_ok] at hce'
          cases hce'
          exact fin (rs := []) (zs' := zs) ⟨H4, G4, I4, hold4, .refl, g4, by simpa using p4⟩ q3 (by simpa using hxs)
      | true =>
        simp only [if_true] at hce' ⊢
        cases q3 : (compGo emit (dc1 :: dcs1) : M (List E)) ρ2 with
        | bad => rw [q3] at hce'; cases hce'
        | exc x ρx => rw [q3] at hce'; cases hce'
        | ok rs ρ5 =>
          rw [q3] at hce'
          simp only [Res.bind_ok] at hce'
          cases q4 : compItems dc.tg dc.cond (compGo emit (dc1 :: dcs1)) (items.drop (i + 1)) (wipeE ρ5 dc.tg.slots) with
          | bad => rw [q4] at hce'; cases hce'
          | exc x ρx => rw [q4] at hce'; cases hce'
          | ok zs' ρz =>
            rw [q4] at hce'
            simp only [Res.bind_ok] at hce'
            cases hce'
            have hzz : (out ++ ys ++ rs).length ≤ sizeLine := by
              rw [← hxs] at hz
              simp only [List.length_append] at hz ⊢
              omega
            -- the inner source
            simp only [compGo] at q3
            cases q5 : dc1.it ρ2 with
            | bad => rw [q5] at q3; cases q3
            | exc x ρx => rw [q5] at q3; cases q3
            | ok items1 ρ6 =>
            rw [q5] at q3
            simp only [Res.bind_ok] at q3
            refine thnX (pi1.run _ s4 σ3 H4 (fun J1 H6 => ∃ G6, Tr O G4 H4 G6 H6 ∧ Hold (cnOf X) T O G6 σ3 H6 ρ6 ∧ IterOk (cnOf X) J1 G6 items1) I4 ⟨O, G4, ρ2, hold4, by rw [q5]; exact fun J1 G6 H6 t6 h6 i6 => ⟨G6, t6, h6, i6⟩⟩) hxe fun xv s6 h6 => ?_
            refine thnX h6 hxe fun itv s7 h7 => ?_
            obtain ⟨it1, fp1, tn1, J1, H6, e1, I7, T1, st7, f7, G6, tr6, hold6, io1⟩ := h7
            subst e1
            obtain ⟨p6, g6⟩ := Acc.step tr6 hO g4 p4
            have nd2 : (dc1.tg.slots ++ allSlots dcs1).Nodup := (List.nodup_append.mp nd).2.1
            have hσ1 : ∀ j ∈ dc1.tg.slots ++ allSlots dcs1, ∀ v, σ3[j]? ≠ some (some v) := fun j hj v => by
              have hj' : j ∈ allSlots (dc1 :: dcs1) := hj
              rw [hs3 j (fun hm => (List.nodup_append.mp nd).2.2 j hm j hj' rfl)]
              exact hσ j (List.mem_append_right _ hj') v
            have loop := ih dcs1 ⟨t1, i1, ifs1, 0⟩ dc1 (k + 1) (fun j => by have := hk (j + 1); rw [show k + 1 + j = k + (j + 1) by omega]; simpa using this) ok1 hins nd2
              (pins ++ pinsAt fp s2.heap) s7 σ3 H6 O G6 ρ6 (out ++ ys) rs ρ5 items1 it1 fp1 tn1 J1 I7 hold6 hO g6 p6 T1 st7 f7 io1 hσ1 q3 hzz
            have loop' : codeAny (model X.prog X.w) X.A (.compLoop e (k + 1) (.ref it1) (.ref Dd) X.env) (fun r s' => match r with
                | .ok _ => ∃ m, m < items.length - i ∧ ∃ (i : Nat) (H' G' : Hp) (ρi : Ev) (ys zs : List E), m = items.length - i ∧ i ≤ items.length ∧ Inv X pins σ H' s' ∧ tn i s'.heap ∧ (∀ b ∈ fp, H' b = none) ∧ Hold (cnOf X) T O G' σ H' ρi ∧
                    Tr (fun a => O a ∨ a = Dd) G H G' H' ∧ Same G G' ∧ G' Dd = none ∧ A.P G' H' (out ++ ys) ∧ compItems dc.tg dc.cond (compGo emit (dc1 :: dcs1)) (items.drop i) ρi = .ok zs ρ' ∧ ys ++ zs = xs
                | .error _ => False) s7 := codeAny_mono loop fun r s8 h8 => by
              cases r with
              | error _ => exact h8
              | ok f =>
                obtain ⟨H8, G8, I8, hold8, tr8, g8, p8⟩ := h8
                exact fin ⟨H8, G8, I8, hold8, (tr6.wider fun _ h => .inl h).trans' tr8, g8, p8⟩ q4 hxs
            exact compStart_of C hk1 loop' (T1.self X.A 0 _ _ _ st7 loop')
    · have hi' : i = items.length := by omega
      subst hi'
      rw [List.drop_length] at hce'
      simp only [compItems] at hce'
      cases hce'
      refine thnX (Tn.done X rfl rfl rfl hc _ pins s' σ H' (fun _ _ => False) I' (fpok H' fn') st' (io.stop G' H' _ sg' hold'.sub (Nat.le_refl _))) (fun _ _ z => z) fun r s1 ⟨hr, I1⟩ => ?_
      subst hr
      have : ys = xs := by simpa using hxs
      subst this
      exact ⟨H', G', I1, hold', tr', hg', hp'⟩
end
end Sd
set_option Elab.async false
set_option linter.all false
set_option maxRecDepth 100000
set_option maxHeartbeats 4000000
set_option autoImplicit false
/-! Sd: list and dict comprehensions as wholes. -/
namespace Sd
open PySem PySem.Spec PyProof.Rows L2

def keepV : Option Sl → Option Sl
  | some (.val d) => some (.val d)
  | _ => none
def restoreE (ρ1 ρ2 : Ev) : List Nat → Ev
  | [] => ρ2
  | v :: vs => (restoreE ρ1 ρ2 vs).set v (keepV (ρ1[v]?.getD none))
theorem restoreE_length (ρ1 ρ2 : Ev) : ∀ vs : List Nat, (restoreE ρ1 ρ2 vs).length = ρ2.length
  | [] => rfl
  | v :: vs => by unfold restoreE; rw [List.length_set, restoreE_length ρ1 ρ2 vs]
theorem restoreE_some {ρ1 ρ2 : Ev} {i : Nat} {x : Sl} : ∀ {vs : List Nat}, (restoreE ρ1 ρ2 vs)[i]? = some (some x) → (i ∉ vs ∧ ρ2[i]? = some (some x)) ∨ (i ∈ vs ∧ ρ1[i]? = some (some x) ∧ ∃ d, x = .val d)
  | [], h => .inl ⟨by simp, h⟩
  | v :: vs, h => by
    unfold restoreE at h
    rcases set_some_of h with ⟨rfl, e⟩ | ⟨hne, h⟩
    · right
      refine ⟨List.mem_cons_self, ?_⟩
      cases q : ρ1[i]? with
      | none => rw [q] at e; simp [keepV] at e
      | some o =>
        rw [q] at e
        cases o with
        | none => simp [keepV] at e
        | some s =>
          cases s with
          | own o => simp [keepV] at e
          | val d =>
            simp only [Option.getD_some, keepV, Option.some.injEq] at e
            subst e
            exact ⟨rfl, d, rfl⟩
    · rcases restoreE_some h with ⟨h1, h2⟩ | ⟨h1, h2⟩
      · exact .inl ⟨by simp only [List.mem_cons, not_or]; exact ⟨hne, h1⟩, h2⟩
      · exact .inr ⟨List.mem_cons_of_mem _ h1, h2⟩
theorem wipe_some_iff {σ : St} {i : Nat} {x : V} {vs : List Nat} (h : (wipe σ vs)[i]? = some (some x)) : σ[i]? = some (some x) := (wipe_some h).1
theorem Hold.wipeS {c : Cn} {T : Fx} {O : Addr → Prop} {G H : Hp} {σ : St} {ρ : Ev} (h : Hold c T O G σ H ρ) (vs : List Nat) (hL : ∀ p ∈ T.L, p.1 ∉ vs) : Hold c T O G (wipe σ vs) H (wipeE ρ vs) :=
  h.weak (wipe_length _ _) (wipeE_length _ _) (fun p hp => by rw [wipe_out (hL p hp)]; exact h.lnt p hp) fun i s e => by
    obtain ⟨h1, h2⟩ := wipeE_some e
    exact ⟨h1, wipe_out h2⟩
theorem Hold.restore {c : Cn} {T : Fx} {O : Addr → Prop} {G G' H H' : Hp} {σ : St} {ρ1 ρ2 : Ev} {vs : List Nat} (h1 : Hold c T O G σ H ρ1) (h2 : Hold c T O G' (wipe σ vs) H' ρ2) (hs : Same G G') : Hold c T O G' σ H' (restoreE ρ1 ρ2 vs) where
  sub := h2.sub
  ntb := h2.ntb
  oin := h2.oin
  tab := h2.tab
  lnt := h1.lnt
  len := by rw [restoreE_length, h2.len, wipe_length]
  slot := fun i s hi => by
    rcases restoreE_some hi with ⟨hn, hi⟩ | ⟨hm, hi, d, rfl⟩
    · obtain ⟨v, e, q⟩ := h2.slot i s hi
      exact ⟨v, (wipe_some e).1, q⟩
    · obtain ⟨v, e, q⟩ := h1.slot i _ hi
      exact ⟨v, e, Rep.mono hs q⟩
  apart := fun i j o o' a hij hi hj ha => by
    rcases restoreE_some hi with ⟨hn, hi⟩ | ⟨_, _, d, hd⟩
    · rcases restoreE_some hj with ⟨hn', hj⟩ | ⟨_, _, d, hd⟩
      · have := h2.apart i j o o' a hij hi hj (by rw [wipe_out hn]; exact ha)
        rw [wipe_out hn'] at this
        exact this
      · cases hd
    · cases hd

theorem compPost_ok {M : Model} {A : Around} {E : Value → Shared → Prop} {use : Option (Value → Sem Unit)} {Q : Value → Shared → Prop} {acc : Value} {C : Addr} {f : Flow} {s : Shared} (h : compPost M A E use Q acc C (.ok .next) s) : compPost M A E use Q acc C (.ok f) s := by
  cases use <;> exact h

section
variable {X : Cx} {T : Fx} {W : WX}
/-- a new accumulator -/
def NewOk (X : Cx) (newAcc : Sem Value) (o0 : HO) : Prop := ∀ (pins : List (Addr × Obj)) (s : Shared) (σ : St) (H : Hp) (Q : Value → Shared → Prop) (E : Value → Shared → Prop), Inv X pins σ H s →
  (∀ s3, s3.heap.objs.size = s.heap.objs.size + 1 → (∀ b o, s.heap.get? b = some o → s3.heap.get? b = some o) → s3.gens = s.gens → s3.os = s.os → Inv X pins σ (upd H s.heap.objs.size o0) s3 → Q (.ref s.heap.objs.size) s3) → wpAny (model X.prog X.w) X.A newAcc Q E s
theorem new_list : NewOk X (newList []) (.lst []) := fun pins s σ H Q E I h => by
  refine wpAny_newObj_type ?_ (by show 0 ≤ sizeLine; decide)
  refine h _ (Heap.size_push ..) (fun b o e => Heap.get?_push_of_some _ e) rfl rfl (I.laid (t' := s.toks) (fun b o e => Heap.get?_push_of_some _ e) (Nat.le_refl _) ⟨Nat.zero_le _, [], 0, .nil, ?_⟩)
  exact Heap.get?_push_size _ rfl

/-- the blocks of a comprehension -/
abbrev BlkF (X : Cx) (scope : Scope) := ∀ (s : Shared) (H : Hp) (C : Addr) (cl : List (Str × Addr)) (fp : List Addr), Cx
def sComp {E : Type} (fin : List E → Option Ob) (vs : List Nat) (dc : DCl) (dcs : List DCl) (emit : M (List E)) : M Sl := fun ρ => (dc.it ρ).bind fun items ρ1 =>
  match compItems dc.tg dc.cond (compGo emit dcs) items (wipeE ρ1 vs) with
  | .ok xs ρ2 => if xs.length ≤ sizeLine then (match fin xs with | some o => .ok (.own o) (restoreE ρ1 ρ2 vs) | none => .bad) else .bad
  | _ => .bad

theorem comp_core {pins : List (Addr × Obj)} {s : Shared} {σ : St} {H : Hp} {Q : VK} {e : Expr} {gens : List Comprehension} {emitV : Value → PySem.Env → Sem Unit} {newAcc : Sem Value} {o0 : HO} {E : Type} {emit : M (List E)} {fin : List E → Option Ob}
    {tg iter : Expr} {ifs : List Expr} {cls : List Comprehension} {scope : Scope} {own : List (Str × Nat)} {pos' : Pos} {dc : DCl} {dcs : List DCl} {use : Option (Value → Sem Unit)} {Qf : Value → Shared → Prop}
    (C : CE e gens emitV) (hgens : gens = ⟨tg, iter, ifs, 0⟩ :: cls) (A : ∀ Dd, Acc Dd E) (hnew : NewOk X newAcc o0) (h0 : ∀ G H Dd, (A Dd).P G (upd H Dd o0) []) (ho0 : ∀ ps, o0 ≠ .tbl ps)
    (hfin : ∀ G H Dd out o, (A Dd).P G H out → fin out = some o → ObAt (cnOf X) G H Dd o)
    (hc : X.calm = true) (hN : X.N.Nodup) (I : Inv X pins σ H s) (hi : PI X tg iter (dI (cnOf X) T W dc.it)) (ok : BlkOk X.N X.env.scope scope own)
    (hok : ∀ (s : Shared) (H : Hp) (C : Addr) (cl : List (Str × Addr)) (fp : List Addr), ClOk (X.blk s H scope (compEnvC scope cl C X.env) fp) T W0 ⟨tg, iter, ifs, 0⟩ dc)
    (hin : ∀ (s : Shared) (H : Hp) (C : Addr) (cl : List (Str × Addr)) (fp : List Addr), ClIns (X.blk s H scope (compEnvC scope cl C X.env) fp) T W0 cls dcs)
    (hem : ∀ (s : Shared) (H : Hp) (C : Addr) (cl : List (Str × Addr)) (fp : List Addr) (Dd : Addr), EmitOk (X.blk s H scope (compEnvC scope cl C X.env) fp) T (A Dd) emitV emit)
    (hs : ∀ x, foldedSetIterable iter X.env x = pure x) (nd : (dc.tg.slots ++ allSlots dcs).Nodup) (hsub : ∀ i ∈ dc.tg.slots ++ allSlots dcs, i ∈ own.map (·.2)) (hL : ∀ p ∈ T.L, p.1 ∉ own.map (·.2))
    (h : dT (cnOf X) T W (sComp fin (own.map (·.2)) dc dcs emit) σ H Q)
    (hRR : ∀ D C s' m H', Inv X pins σ H' s' → Q (.ref D) H' → s'.heap.Ns C m → FpOk X pins H' C → compPost (model X.prog X.w) X.A X.xe use Qf (.ref D) C (.ok .next) s') :
    wpAny (model X.prog X.w) X.A (comprehension e scope X.env pos' newAcc false (eval iter X.env) use) Qf X.xe s := by
  have hfree : ∀ y ∈ scope.names, y.2 = .free → ∃ c, X.env.cells.lookup y.1 = some c := fun y hy e => by
    rcases ok.free y hy e with k | k
    · exact I.ok.has _ (.inl k)
    · exact I.ok.has _ (.inr k)
  obtain ⟨O, G, ρ, hold, h⟩ := h
  unfold sComp at h
  have hcl : clausesOf e = ⟨tg, iter, ifs, 0⟩ :: cls := by rw [C.cls, hgens]
  cases q1 : dc.it ρ with
  | bad => rw [q1] at h; exact h.elim
  | exc x ρx =>
    rw [q1] at h
    refine wpAny_comprehension_free (use := use) (g := ⟨tg, iter, ifs, 0⟩) hcl hs (closure_ok hfree) ok.kind (fun y hy e => by rw [ok.uniq y hy, e])
      (thn (hi.run pins s σ H (fun _ _ => False) I ⟨O, G, ρ, hold, by rw [q1]; exact h⟩) fun xv s1 hx => thn hx fun itv s2 h2 => ?_)
    obtain ⟨_, _, _, _, _, _, _, _, _, _, z⟩ := h2
    exact z.elim
  | ok items ρ1 =>
  rw [q1] at h
  simp only [Res.bind_ok] at h
  cases q2 : compItems dc.tg dc.cond (compGo emit dcs) items (wipeE ρ1 (own.map (·.2))) with
  | bad => rw [q2] at h; exact h.elim
  | exc x ρx => rw [q2] at h; exact h.elim
  | ok xs ρ2 =>
  rw [q2] at h
  simp only at h
  by_cases hz : xs.length ≤ sizeLine
  rotate_left
  · rw [if_neg hz] at h; exact h.elim
  rw [if_pos hz] at h
  cases q3 : fin xs with
  | none => rw [q3] at h; exact h.elim
  | some o =>
  rw [q3] at h
  simp only at h
  refine wpAny_comprehension_free (use := use) (g := ⟨tg, iter, ifs, 0⟩) hcl hs (closure_ok hfree) ok.kind (fun y hy e => by rw [ok.uniq y hy, e])
    (thn (hi.run pins s σ H (fun J H1 => ∃ G1, Tr O G H G1 H1 ∧ Hold (cnOf X) T O G1 σ H1 ρ1 ∧ IterOk (cnOf X) J G1 items) I ⟨O, G, ρ, hold, by rw [q1]; exact fun J G1 H1 t1 h1 i1 => ⟨G1, t1, h1, i1⟩⟩) fun xv s1 hx => thn hx fun itv s2 h2 => ?_)
  obtain ⟨it, fp, tn, J, H2, e2, I2, Tn, st2, f2, G1, tr1, hold1, io1⟩ := h2
  subst e2
  refine hnew pins s2 σ H2 _ _ I2 fun s3 hsz3 hk3 hg3 ho3 I3 => newEnv_comp ?_
  generalize hD : s2.heap.objs.size = D at I3 hsz3 ⊢
  have hDn : H2 D = none := I2.hok.fresh (Nat.le_of_eq hD)
  have sz : ∀ b ∈ fp, b < s2.heap.objs.size := fun b hb => by
    obtain ⟨o, e, _⟩ := Tn.obj _ _ st2 b hb
    exact Heap.lt_size e
  have f3 : ∀ b ∈ fp, FpOk X pins (upd H2 D o0) b ∧ b < s3.heap.objs.size := fun b hb => by
    have hlt := sz b hb
    refine ⟨⟨?_, (f2 b hb).2⟩, by rw [hsz3, ← hD]; exact Nat.lt_succ_of_lt hlt⟩
    rw [upd_ne (by rw [← hD]; exact Nat.ne_of_lt hlt)]
    exact (f2 b hb).1
  have st3 : tn 0 s3.heap := Tn.keep _ _ _ st2 fun b _ o e => hk3 b o e
  have I4 := block_start I3 ok hN f3
  generalize hfn : cellsFrom (s3.heap.objs.size + 1) scope.names (cloFrom X.env.cells scope.names []) = cl4 at I4 ⊢
  have okc := hok s3 (upd H2 D o0) s3.heap.objs.size cl4 fp
  have inc := hin s3 (upd H2 D o0) s3.heap.objs.size cl4 fp
  have emc := hem s3 (upd H2 D o0) s3.heap.objs.size cl4 fp D
  show codeAny _ _ (.compStart e 0 (.ref it) (.ref D) (compEnvC scope cl4 s3.heap.objs.size X.env)) (compPost (model X.prog X.w) X.A X.xe use Qf (.ref D) s3.heap.objs.size) { s3 with heap := pushCells (s3.heap.push { cls := .type "dict", data := .dict #[] }) scope.names }
  have nfp : ∀ b ∈ fp, (upd H2 D o0) b = none := fun b hb => (f3 b hb).1.1
  have cL : (compEnvC scope cl4 s3.heap.objs.size X.env).locals = s3.heap.objs.size := rfl
  generalize hH3 : upd H2 D o0 = H3 at I3 I4 okc inc emc nfp f3
  have P3 : (A D).P G1 H3 [] := by rw [← hH3]; exact h0 G1 H2 D
  have hold3 : Hold (cnOf X) T O G1 σ H3 ρ1 := by rw [← hH3]; exact hold1.trn (TrN.laid hold1.sub hold1.ntb hDn)
  have tr3 : Tr O G1 H2 G1 H3 := by rw [← hH3]; exact Tr.laid hDn
  have hOD : ¬ O D := fun z => hold1.oin D z hDn
  have hGD : G1 D = none := hold1.gnone hDn
  generalize hs4 : ({ s3 with heap := pushCells (s3.heap.push { cls := .type "dict", data := .dict #[] }) scope.names } : Shared) = s4 at I4 ⊢
  have st4 : tn 0 s4.heap := Tn.keep _ _ _ st3 fun b _ o e => by rw [← hs4]; exact pushCells_keeps _ _ _ _ (Heap.get?_push_of_some _ e)
  generalize hX' : X.blk s3 H3 scope (compEnvC scope cl4 s3.heap.objs.size X.env) fp = X' at I4 okc inc emc
  have stat : ∀ b ∈ fp, FpOk X' [] H3 b := fun b hb => by
    have I' := I4
    refine ⟨nfp b hb, (I'.ok.exf b (by rw [← hX']; exact hb)).1, I'.ok.exfs b (by rw [← hX']; exact hb), .inl (by rw [← hX']; exact hb), fun x c e => (I'.ok.exf b (by rw [← hX']; exact hb)).2 x c e, fun p hp => absurd (show p ∈ ([] : List (Addr × Obj)) ++ [] from by rw [← hX'] at hp; exact hp) (by simp)⟩
  have hXc : cnOf X' = cnOf X := by rw [← hX']
  have hpre : ∀ j, gens[0 + j]? = (⟨tg, iter, ifs, 0⟩ :: cls : List Comprehension)[j]? := fun j => by rw [hgens, Nat.zero_add]
  have hM : model X'.prog X'.w = model X.prog X.w := by rw [← hX']
  have hA : X'.A = X.A := by rw [← hX']
  have hEnv : X'.env = compEnvC scope cl4 s3.heap.objs.size X.env := by rw [← hX']
  have hold4 : Hold (cnOf X') T O G1 (wipe σ (own.map (·.2))) H3 (wipeE ρ1 (own.map (·.2))) := by rw [hXc]; exact hold3.wipeS _ hL
  have loop := loop_comp (X := X') (A := A D) (emit := emit) C (by rw [← hX']; exact hc) (by rw [← hX']; exact fun _ _ z => z) emc cls dcs ⟨tg, iter, ifs, 0⟩ dc 0 hpre okc inc nd [] s4 (wipe σ (own.map (·.2))) H3 O G1 (wipeE ρ1 (own.map (·.2))) [] xs ρ2 items it fp tn J
    I4 hold4 hOD hGD P3 (by rw [← hX']; exact Tn) st4 stat (by rw [hXc]; exact io1) (fun i hi v e => (wipe_some e).2 (hsub i hi)) q2 (by simpa using hz)
  have loop' : codeAny (model X.prog X.w) X.A (.compLoop e 0 (.ref it) (.ref D) (compEnvC scope cl4 s3.heap.objs.size X.env)) (compPost (model X.prog X.w) X.A X.xe use Qf (.ref D) s3.heap.objs.size) s4 := by
    rw [hM, hA, hEnv] at loop
    refine codeAny_mono loop fun r s6 hr => ?_
    cases r with
    | error _ => exact hr.elim
    | ok f =>
      obtain ⟨H5, G5, I6, hold5, tr5, g5, p5⟩ := hr
      have p5' : (A D).P G5 H5 xs := by simpa using p5
      have os6 : s6.os = s3.os := by have := I6.os; rw [← hX'] at this; exact this
      have base6 := I6.base
      have hok6 := I6.hok
      rw [← hX'] at base6 hok6
      have I7 : Inv X pins σ H5 s6 := I3.call' (ch := fp) os6 base6 hok6 I6.bare fun b hb => ⟨(f3 b hb).1.2.2.2.1, (f3 b hb).1.2.1, (f3 b hb).1.2.2.2.2.1, (f3 b hb).1.2.2.2.2.2⟩
      have nC : H5 s3.heap.objs.size = none := by
        have z : H5 X'.env.locals = none := I6.free
        rw [hEnv, cL] at z
        exact z
      obtain ⟨m, hn, _⟩ := I6.loc
      rw [hEnv, cL] at hn
      rw [hXc] at hold5
      have hq : Q (.ref D) H5 := by
        refine h (.ref D) G5 H5 ?_ (hold3.restore hold5 tr5.g) ⟨D, rfl, tr1.d D hDn, g5, hfin G5 H5 D xs o p5' q3⟩
        refine tr1.trans' ⟨tr5.g, fun a u ha hOa ht => ?_, fun a u ha => ?_, fun a ha => tr3.d a (tr5.d a ha), fun a ps ha => ?_⟩
        · have had : a ≠ D := fun z => by rw [z, hDn] at ha; cases ha
          exact tr5.k a u (by rw [← hH3, upd_ne had]; exact ha) (fun z => z.elim hOa had) ht
        · rcases tr5.n a u ha with z | z | z | z
          · exact .inl z
          · exact .inr (.inl (tr3.d a z))
          · exact .inr (.inr z)
          · subst z; exact .inr (.inl hDn)
        · have had : a ≠ D := fun z => by rw [z, hDn] at ha; cases ha
          exact tr5.t a ps (by rw [← hH3, upd_ne had]; exact ha)
      exact compPost_ok (hRR D s3.heap.objs.size s6 m H5 I7 hq hn (I3.fpOk (Nat.le_refl _) nC))
  exact compStart_of C (k := 0) (t := tg) (i := iter) (ifs := ifs) (by rw [hgens]; rfl) loop' (Tn.self X.A 0 _ _ _ st4 loop')

/-! ### lists -/
def accL (c : Cn) (Dd : Addr) : Acc Dd D where
  P := fun G H out => ∃ acc, H Dd = some (.lst acc) ∧ Reps c G acc out
  mono := fun s e ⟨acc, h, r⟩ => ⟨acc, e.trans h, r.mono s⟩
  there := fun ⟨acc, h, r⟩ => ⟨_, h, fun ps z => by cases z⟩
theorem emit_list {elt : Expr} {f : M Sl} {Dd : Addr} (hxe : ∀ u s, ¬ X.xe u s) (he : PE X elt (dT (cnOf X) T W0 f)) : EmitOk X T (accL (cnOf X) Dd) (fun acc env => do let _ ← call (.builtin "list.append") [acc, ← eval elt env]) (emit1 f) := by
  intro pins s σ H O G ρ out r ρ' I hold hO hg hp hce hz
  unfold emit1 at hce
  cases q1 : f ρ with
  | bad => rw [q1] at hce; cases hce
  | exc x ρx => rw [q1] at hce; cases hce
  | ok y ρ1 =>
    rw [q1] at hce
    simp only [Res.bind_ok] at hce
    cases hce
    refine wpAny_bind (thnX (he.run pins s σ H (fun v H1 => ∃ G1, Tr O G H G1 H1 ∧ Hold (cnOf X) T O G1 σ H1 ρ' ∧ RepR (cnOf X) H G1 H1 v y) I ⟨O, G, ρ, hold, by rw [q1]; exact fun v G1 H1 t1 h1 r1 => ⟨G1, t1, h1, r1⟩⟩) hxe fun u s1 ⟨v, H1, I1, rv, G1, tr1, hold1, r1⟩ => ?_)
    obtain ⟨G2, s2, tr2, hold2, r2⟩ := hold1.frzR hold.oin tr1 r1
    obtain ⟨⟨acc, hacc, racc⟩, hg2⟩ := Acc.step (A := accL (cnOf X) Dd) tr2 hO hg hp
    have hlen : acc.length < sizeLine := by
      rw [racc.length]
      simp only [List.length_append, List.length_singleton] at hz
      omega
    refine wpAny_bind (app_ok I1 hacc hlen rv fun s3 I3 => wpAny_pure ?_)
    refine ⟨_, G2, I3, ?_, (tr2.wider fun _ h => .inl h).trans' (Tr.write (.inr rfl) hacc (fun ps z => by cases z)), hg2, _, upd_same, racc.append (.cons r2 .nil)⟩
    -- the slots don't stand on Dd
    refine ⟨fun a o e => ?_, hold2.ntb, fun a ho e => ?_, fun p hp => ?_, hold2.lnt, hold2.len, fun i sl hi => ?_, hold2.apart⟩
    · rw [upd_ne (fun z => by rw [z, hg2] at e; cases e)]
      exact hold2.sub a o e
    · rw [upd_ne (fun z => hO (by rw [← z]; exact ho))] at e
      exact hold2.oin a ho e
    · obtain ⟨ps, e, q⟩ := hold2.tab p hp
      exact ⟨ps, by rw [upd_ne (fun z => by rw [z, hacc] at e; cases e)]; exact e, q⟩
    · obtain ⟨v', e, q⟩ := hold2.slot i sl hi
      refine ⟨v', e, ?_⟩
      cases sl with
      | val d => exact q
      | own o =>
        obtain ⟨a, rfl, ho, hg', q⟩ := q
        exact ⟨a, rfl, ho, hg', q.mono (fun _ _ h => h) (upd_ne fun z => hO (by rw [← z]; exact ho))⟩
def finL : List D → Option Ob := fun xs => some (.lst xs)
abbrev sListComp (vs : List Nat) (dc : DCl) (dcs : List DCl) (elt : M Sl) : M Sl := sComp finL vs dc dcs (emit1 elt)
/-- the facts of a comprehension's block -/
structure LcOk (X : Cx) (T : Fx) (W : WX) (elt tg iter : Expr) (ifs : List Expr) (cls : List Comprehension) (scope : Scope) (own : List (Str × Nat)) (dc : DCl) (dcs : List DCl) (f : M Sl) : Prop where
  hc : X.calm = true
  hN : X.N.Nodup
  hi : PI X tg iter (dI (cnOf X) T W dc.it)
  ok : BlkOk X.N X.env.scope scope own
  hok : ∀ (s : Shared) (H : Hp) (C : Addr) (cl : List (Str × Addr)) (fp : List Addr), ClOk (X.blk s H scope (compEnvC scope cl C X.env) fp) T W0 ⟨tg, iter, ifs, 0⟩ dc
  hin : ∀ (s : Shared) (H : Hp) (C : Addr) (cl : List (Str × Addr)) (fp : List Addr), ClIns (X.blk s H scope (compEnvC scope cl C X.env) fp) T W0 cls dcs
  he : ∀ (s : Shared) (H : Hp) (C : Addr) (cl : List (Str × Addr)) (fp : List Addr), PE (X.blk s H scope (compEnvC scope cl C X.env) fp) elt (dT (cnOf X) T W0 f)
  hs : ∀ x, foldedSetIterable iter X.env x = pure x
  nd : (dc.tg.slots ++ allSlots dcs).Nodup
  hsub : ∀ i ∈ dc.tg.slots ++ allSlots dcs, i ∈ own.map (·.2)
  hL : ∀ p ∈ T.L, p.1 ∉ own.map (·.2)
theorem firstAsync_0 {tg iter : Expr} {ifs : List Expr} {cls : List Comprehension} : firstAsync (⟨tg, iter, ifs, 0⟩ :: cls) = false := rfl
theorem pe_lcN {elt tg iter : Expr} {ifs : List Expr} {cls : List Comprehension} {scope : Scope} {own : List (Str × Nat)} {pos : Pos} {dc : DCl} {dcs : List DCl} {f : M Sl} (K : LcOk X T W elt tg iter ifs cls scope own dc dcs f) :
    PE X (.ListComp elt (⟨tg, iter, ifs, 0⟩ :: cls) scope pos) (dT (cnOf X) T W (sListComp (own.map (·.2)) dc dcs f)) := by
  refine ⟨fun pins s σ H Q I h => ?_⟩
  rw [eval_ListComp]
  refine comp_core (ce_list elt _ scope pos) rfl (accL (cnOf X)) new_list (fun G H Dd => ⟨[], upd_same, .nil⟩) (fun ps z => by cases z) (fun G H Dd out o p e => by cases e; exact p) K.hc K.hN I K.hi K.ok K.hok K.hin
    (fun s H C cl fp Dd => emit_list (fun _ _ z => z) (K.he s H C cl fp)) K.hs K.nd K.hsub K.hL h fun D C s' m H' I' q hn f => ⟨m, hn, fun h'' sb => ?_⟩
  obtain ⟨f0, f1, f2, f3, f4, f5⟩ := f
  exact ⟨.ref D, H', I'.turned (t' := s'.toks) (fun b o hb e => (sb.2 b hb).trans e) f0 f1 f3 f4 f5, rfl, q⟩
/-- name = [..] on one line -/
theorem ps_lcN {i : Nat} {y : Str} {py : Pos} {elt tg iter : Expr} {ifs : List Expr} {cls : List Comprehension} {scope : Scope} {own : List (Str × Nat)} {pos spos : Pos} {dc : DCl} {dcs : List DCl} {f : M Sl} (K : LcOk X T W elt tg iter ifs cls scope own dc dcs f)
    (hy : X.N[i]? = some y) (hyl : X.env.scope.names.lookup y = some .local) (hsw : swapsWith (.ListComp elt (⟨tg, iter, ifs, 0⟩ :: cls) scope pos) (some (.Name y py)) spos.line X.env = pure true) :
    PS X (.Assign [.Name y py] (.ListComp elt (⟨tg, iter, ifs, 0⟩ :: cls) scope pos) spos) (tAsg (dT (cnOf X) T W (sListComp (own.map (·.2)) dc dcs f)) (gName i)) := by
  refine ⟨fun pins s σ H D I h => ?_⟩
  rw [exec_Assign_Name_used _ _ _ _ hsw]
  refine wpAny_bind (wpAny_standAt (wpAny_bind ?_))
  show wpAny _ X.A (do let _ ← comprehension (.ListComp elt (⟨tg, iter, ifs, 0⟩ :: cls) scope pos) scope X.env (firstIterPos (⟨tg, iter, ifs, 0⟩ :: cls) pos) (newList []) false (eval iter X.env) (some (assign (.Name y py) X.env))) _ _ s
  have h : dT (cnOf X) T W (sListComp (own.map (·.2)) dc dcs f) σ H (fun x H1 => gName i x σ H1 D.nx) := h
  refine wpAny_bind (thn (comp_core (Qf := fun _ s' => SP X pins D .next s') (ce_list elt _ scope pos) rfl (accL (cnOf X)) new_list (fun G H Dd => ⟨[], upd_same, .nil⟩) (fun ps z => by cases z) (fun G H Dd out o p e => by cases e; exact p) K.hc K.hN I K.hi K.ok K.hok K.hin
    (fun s H C cl fp Dd => emit_list (fun _ _ z => z) (K.he s H C cl fp)) K.hs K.nd K.hsub K.hL h fun L C s' m H' I' q hn f => ?_) fun _ s' hq => wpAny_pure (wpAny_pure hq))
  show wpAny _ _ (assign (.Name y py) X.env (.ref L)) _ _ _
  refine wpAny_assign_Name (store_ok2 (v := V.ref L) I' K.hN hy (.inl hyl) rfl (fun s2 I2 ⟨a, sb, ha⟩ => ?_) (.inr hyl))
  obtain ⟨f0, f1, f2, f3, f4, f5⟩ := f
  have haC : C ≠ a := by
    rcases ha with z | z
    · rw [z]; exact f1
    · exact fun e => f4 y a z e.symm
  refine ⟨m, hn.sameBut sb haC, fun h3 sb3 => ?_⟩
  exact ⟨_, H', I2.turned (t' := s2.toks) (fun b o hb e => (sb3.2 b hb).trans e) f0 f1 f3 f4 f5, q⟩
end
end Sd
set_option Elab.async false
set_option linter.all false
set_option maxRecDepth 100000
set_option maxHeartbeats 4000000
set_option autoImplicit false
/-! Sd: generator expressions: the turns. -/
namespace Sd
open PySem PySem.Spec PyProof.Rows L2 GenW

theorem gen_tin (elt : Expr) (gens : List Comprehension) (scope : Scope) (pos : Pos) (k : Nat) (t i : Expr) (ifs : List Expr) (hk : gens[k]? = some ⟨t, i, ifs, 0⟩) (hk1 : gens[k + 1]? = none) (it acc : Value) (env : PySem.Env) :
    compTurn (.GeneratorExp elt gens scope pos) k it acc env = (do
      standAt i.pos
      match ← pyNext it with
      | none => pure (.done .next)
      | some v =>
        letOwnedTupleGo t it v
        assign t env v
        let mut ok := true
        for c in ifs do
          if ok then ok ← PySem.isTrue c env (eval c env)
        if ok then
          (do let v ← eval elt env; standAt elt.pos; let _ ← yieldOut env v)
        again (.compLoop (.GeneratorExp elt gens scope pos) k it acc env)) := by
  unfold compTurn
  simp only [hk, hk1]
  rfl
theorem gen_tout (elt : Expr) (gens : List Comprehension) (scope : Scope) (pos : Pos) (k : Nat) (t i t1 i1 : Expr) (ifs ifs1 : List Expr) (hk : gens[k]? = some ⟨t, i, ifs, 0⟩) (hk1 : gens[k + 1]? = some ⟨t1, i1, ifs1, 0⟩) (it acc : Value) (env : PySem.Env) :
    compTurn (.GeneratorExp elt gens scope pos) k it acc env = (do
      standAt i.pos
      match ← pyNext it with
      | none => pure (.done .next)
      | some v =>
        letOwnedTupleGo t it v
        assign t env v
        let mut ok := true
        for c in ifs do
          if ok then ok ← PySem.isTrue c env (eval c env)
        if ok then
          let x ← eval i1 env
          standAt i1.pos
          let x ← foldedSetIterable i1 env x
          let _ ← runOwn (.compStart (.GeneratorExp elt gens scope pos) (k + 1) (← holding [x] (pyIter x)) acc env) env
        again (.compLoop (.GeneratorExp elt gens scope pos) k it acc env)) := by
  unfold compTurn
  simp only [hk, hk1]
  rfl
def hOf (k : Nat) (env : PySem.Env) : Value → Sem Unit := if k = 0 then leaving env else fun x => do noteFrame x env; theTreesLotGoes x
def hOfS (k : Nat) (env : PySem.Env) : Value → Sem Unit := if k = 0 then leaving env else fun x => do noteFrame x env; standAt theWindowsPlace
theorem den_gen {P : Program} {w : World} {elt : Expr} {gens : List Comprehension} {scope : Scope} {pos : Pos} {k : Nat} {it acc : Value} {env : PySem.Env} :
    (model P w).den (.compLoop (.GeneratorExp elt gens scope pos) k it acc env) = (compTurn (.GeneratorExp elt gens scope pos) k it acc env).onRaise (hOf k env) := by
  cases k with
  | zero => rfl
  | succ k => rfl
theorem denS_gen {P : Program} {w : World} {elt : Expr} {gens : List Comprehension} {scope : Scope} {pos : Pos} {k : Nat} {it acc : Value} {env : PySem.Env} :
    (model P w).den (.compStart (.GeneratorExp elt gens scope pos) k it acc env) = (compStart (.GeneratorExp elt gens scope pos) k it acc env).onRaise (hOfS k env) := by
  cases k with
  | zero => rfl
  | succ k => rfl

section
variable {prog : Program} {w : World} {A : Around} {R : GenEnd} {Y : Protocol} {n : Nat} {s₀ s : Shared} {fs : List Frame} {elt : Expr} {gens : List Comprehension} {scope : Scope} {pos : Pos} {k : Nat} {t i t1 i1 : Expr} {ifs ifs1 : List Expr} {it acc : Value} {env : PySem.Env}
abbrev cG (elt : Expr) (gens : List Comprehension) (scope : Scope) (pos : Pos) (k : Nat) (it acc : Value) (env : PySem.Env) : Code := .compLoop (.GeneratorExp elt gens scope pos) k it acc env
theorem segG_in (hk : gens[k]? = some ⟨t, i, ifs, 0⟩) (hk1 : gens[k + 1]? = none) (hco : env.scope.isCoroutine = false) (hsp : splitAtGen fs = none) (hgd : fs.any Frame.guarded = false)
    (h : wpAny (model prog w) (A.over (cG elt gens scope pos k it acc env) fs) (pyNext it) (fun r s₁ => match r with
      | none => Seg (model prog w) A R Y n s₀ (cG elt gens scope pos k it acc env) (.pure (.done .next)) fs s₁
      | some v => wpAny (model prog w) (A.over (cG elt gens scope pos k it acc env) fs) (letOwnedTupleGo t it v) (fun _ s₁' => wpAny (model prog w) (A.over (cG elt gens scope pos k it acc env) fs) (assign t env v) (fun _ s₂ =>
          wpAny (model prog w) (A.over (cG elt gens scope pos k it acc env) fs) (forIn ifs true fun c r => if r = true then do let ok ← PySem.isTrue c env (eval c env); pure (ForInStep.yield ok) else pure (ForInStep.yield r)) (fun ok s₃ =>
            if ok = true then wpAny (model prog w) (A.over (cG elt gens scope pos k it acc env) fs) (eval elt env) (fun v s₄ => ∃ m, n = m + 1 ∧ ∀ kap : Resume → Shared → Prop,
                (∀ s'', Seg (model prog w) A R Y m s'' (cG elt gens scope pos k it acc env) (.pure (.again (cG elt gens scope pos k it acc env))) fs s'' → kap (.send .none) s'') → Y m s₀ v s₄ kap) (fun _ _ => False) s₃
            else Seg (model prog w) A R Y n s₀ (cG elt gens scope pos k it acc env) (.pure (.again (cG elt gens scope pos k it acc env))) fs s₃) (fun _ _ => False) s₂) (fun _ _ => False) s₁') (fun _ _ => False) s₁) (fun _ _ => False) s) :
    Seg (model prog w) A R Y n s₀ (cG elt gens scope pos k it acc env) ((model prog w).den (cG elt gens scope pos k it acc env)) fs s := by
  rw [den_gen, Sem.onRaise_eq_wrap, gen_tin elt gens scope pos k t i ifs hk hk1]
  refine seg_bind_wrap (wpAny_standAt ?_)
  refine seg_bind_wrap (wpAny_mono h (fun r s₁ h₁ => ?_) fun _ _ z => z.elim)
  cases r with
  | none => exact h₁
  | some v =>
    refine seg_bind_wrap (wpAny_mono h₁ (fun _ s₁' h₁' => ?_) fun _ _ z => z.elim)
    refine seg_bind_wrap (wpAny_mono h₁' (fun _ s₂ h₂ => ?_) fun _ _ z => z.elim)
    refine seg_bind_wrap (wpAny_mono h₂ (fun ok s₃ h₃ => ?_) fun _ _ z => z.elim)
    cases ok with
    | false =>
      simp only [Bool.false_eq_true, if_false] at h₃ ⊢
      exact h₃
    | true =>
      simp only [if_true] at h₃ ⊢
      have hy : ∀ v, yieldOut env v = yieldValue v := fun v => by simp only [yieldOut, hco, Bool.false_eq_true, if_false]
      simp only [hy]
      rw [Sem.bind_eq_wrap', Sem.bind_eq_wrap', Sem.wrap_wrap, Sem.wrap_wrap]
      refine seg_wrap (wpAny_mono h₃ (fun v s₄ h₄ => ?_) fun _ _ z => z.elim)
      obtain ⟨m, rfl, h₄⟩ := h₄
      refine seg_at (seg_yield hsp rfl hgd ?_)
      exact h₄ _ fun s'' hs => hs
theorem segG_out (hk : gens[k]? = some ⟨t, i, ifs, 0⟩) (hk1 : gens[k + 1]? = some ⟨t1, i1, ifs1, 0⟩) (hs : ∀ x, foldedSetIterable i1 env x = pure x)
    (h : wpAny (model prog w) (A.over (cG elt gens scope pos k it acc env) fs) (pyNext it) (fun r s₁ => match r with
      | none => Seg (model prog w) A R Y n s₀ (cG elt gens scope pos k it acc env) (.pure (.done .next)) fs s₁
      | some v => wpAny (model prog w) (A.over (cG elt gens scope pos k it acc env) fs) (letOwnedTupleGo t it v) (fun _ s₁' => wpAny (model prog w) (A.over (cG elt gens scope pos k it acc env) fs) (assign t env v) (fun _ s₂ =>
          wpAny (model prog w) (A.over (cG elt gens scope pos k it acc env) fs) (forIn ifs true fun c r => if r = true then do let ok ← PySem.isTrue c env (eval c env); pure (ForInStep.yield ok) else pure (ForInStep.yield r)) (fun ok s₃ =>
            if ok = true then wpAny (model prog w) (A.over (cG elt gens scope pos k it acc env) fs) (eval i1 env) (fun x s₄ => wpAny (model prog w) (A.over (cG elt gens scope pos k it acc env) fs) (pyIter x) (fun it1 s₅ =>
              ∀ (KK : Result → Sem PySem.Fin) (lvl : List Value) (p : Pos), (∀ n' s₀' f s'', Seg (model prog w) A R Y n' s₀' (cG elt gens scope pos k it acc env) (.pure (.again (cG elt gens scope pos k it acc env))) fs s'' → Seg (model prog w) A R Y n' s₀' (cG elt gens scope pos k it acc env) (KK (.ok f)) fs s'') →
                Seg (model prog w) A R Y n s₀ (.compStart (.GeneratorExp elt gens scope pos) (k + 1) it1 acc env) ((model prog w).den (.compStart (.GeneratorExp elt gens scope pos) (k + 1) it1 acc env)) (.ret KK none false lvl (cG elt gens scope pos k it acc env) p [] :: fs) s₅) (fun _ _ => False) s₄) (fun _ _ => False) s₃
            else Seg (model prog w) A R Y n s₀ (cG elt gens scope pos k it acc env) (.pure (.again (cG elt gens scope pos k it acc env))) fs s₃) (fun _ _ => False) s₂) (fun _ _ => False) s₁') (fun _ _ => False) s₁) (fun _ _ => False) s) :
    Seg (model prog w) A R Y n s₀ (cG elt gens scope pos k it acc env) ((model prog w).den (cG elt gens scope pos k it acc env)) fs s := by
  rw [den_gen, Sem.onRaise_eq_wrap, gen_tout elt gens scope pos k t i t1 i1 ifs ifs1 hk hk1]
  refine seg_bind_wrap (wpAny_standAt ?_)
  refine seg_bind_wrap (wpAny_mono h (fun r s₁ h₁ => ?_) fun _ _ z => z.elim)
  cases r with
  | none => exact h₁
  | some v =>
    refine seg_bind_wrap (wpAny_mono h₁ (fun _ s₁' h₁' => ?_) fun _ _ z => z.elim)
    refine seg_bind_wrap (wpAny_mono h₁' (fun _ s₂ h₂ => ?_) fun _ _ z => z.elim)
    refine seg_bind_wrap (wpAny_mono h₂ (fun ok s₃ h₃ => ?_) fun _ _ z => z.elim)
    cases ok with
    | false =>
      simp only [Bool.false_eq_true, if_false] at h₃ ⊢
      exact h₃
    | true =>
      simp only [if_true] at h₃ ⊢
      refine seg_bind_wrap (wpAny_mono h₃ (fun x s₄ h₄ => ?_) fun _ _ z => z.elim)
      refine seg_bind_wrap (wpAny_standAt ?_)
      refine seg_bind_wrap (wpAny_of_eq (hs x) ?_)
      refine seg_bind_wrap (wpAny_holding (wpAny_mono h₄ (fun it1 s₅ h₅ => ?_) fun _ _ z => z.elim))
      show Seg _ A R Y n s₀ _ (.call (.compStart (.GeneratorExp elt gens scope pos) (k + 1) it1 acc env) none _ _ _) fs s₅
      refine seg_call fun p => ?_
      refine h₅ _ _ p fun n' s₀' f s'' hq => ?_
      exact hq
theorem segG_start (hk : gens[k]? = some ⟨t, i, ifs, 0⟩) (h0 : Seg (model prog w) A R Y n s₀ (cG elt gens scope pos k it acc env) ((model prog w).den (cG elt gens scope pos k it acc env)) fs s)
    (h : wpAny (model prog w) (A.over (.compStart (.GeneratorExp elt gens scope pos) k it acc env) fs) (pyIter it) (fun it' s' => Seg (model prog w) A R Y n s₀ (cG elt gens scope pos k it' acc env) ((model prog w).den (cG elt gens scope pos k it' acc env)) fs s') (fun _ _ => False) s) :
    Seg (model prog w) A R Y n s₀ (.compStart (.GeneratorExp elt gens scope pos) k it acc env) ((model prog w).den (.compStart (.GeneratorExp elt gens scope pos) k it acc env)) fs s := by
  rw [denS_gen, Sem.onRaise_eq_wrap]
  unfold compStart
  simp only [show clausesOf (.GeneratorExp elt gens scope pos) = gens from rfl, hk]
  show Seg _ A _ _ n s₀ _ ((ask >>= _).wrap _ _ _ _) fs s
  refine seg_bind_wrap (wpAny_askSetting ?_)
  split
  · exact seg_again rfl h0
  · first
      | exact seg_bind_wrap (wpAny_rule (seg_bind_wrap (wpAny_standAt (seg_bind_wrap (wpAny_mono h (fun it' s' h' => seg_again rfl h') fun _ _ z => z.elim)))))
      | (refine seg_bind_wrap (wpAny_rule ?_); show Seg _ A _ _ n s₀ _ ((standAt i.pos >>= _).wrap _ _ _ _) fs s; exact seg_bind_wrap (wpAny_standAt (seg_bind_wrap (wpAny_mono h (fun it' s' h' => seg_again rfl h') fun _ _ z => z.elim))))
end
end Sd
set_option Elab.async false
set_option linter.all false
set_option maxRecDepth 100000
set_option maxHeartbeats 4000000
set_option autoImplicit false
/-! Sd: any, all of generator expressions: the data level, the turns. -/
namespace Sd
open PySem PySem.Spec PyProof.Rows L2 GenW

def anyItems (tg : Tgt) (cond : M Bool) (body : M Bool) : List D → M Bool
  | [] => fun ρ => .ok false ρ
  | d :: ds => fun ρ => match assignT tg d ρ with
    | none => .bad
    | some ρ1 => (cond ρ1).bind fun b ρ2 => if b = true then (body ρ2).bind fun st ρ3 => if st = true then .ok true ρ3 else anyItems tg cond body ds (wipeE ρ3 tg.slots)
      else anyItems tg cond body ds (wipeE ρ2 tg.slots)
def eltB (stop : Bool) (elt : M Sl) : M Bool := fun ρ => (elt ρ).bind fun r ρ' => match r with
  | .val (.bool b) => .ok (b == stop) ρ'
  | _ => .bad
def anyGo (stop : Bool) (elt : M Sl) : List DCl → M Bool
  | [] => eltB stop elt
  | cl :: cls => fun ρ => (cl.it ρ).bind fun items ρ1 => anyItems cl.tg cl.cond (anyGo stop elt cls) items ρ1

/-- the consumer has let the generator sleep -/
structure Woke (s s' : Shared) : Prop where
  heap : s'.heap = s.heap
  os : s'.os = s.os
  bare : AllBare s'.gens
theorem Inv.woke {X : Cx} {pins : List (Addr × Obj)} {σ : St} {H : Hp} {s s' : Shared} (I : Inv X pins σ H s) (z : Woke s s') : Inv X pins σ H s' :=
  I.call' (ch := []) z.os (by rw [z.heap]; exact Un.refl) (by rw [z.heap]; exact I.hok) z.bare (fun b hb => absurd hb (by simp))
def GAt (X : Cx) (T : Fx) (pins : List (Addr × Obj)) (O : Addr → Prop) (G0 H0 : Hp) (σ : St) (ρ : Ev) (s : Shared) : Prop :=
  ∃ H G, Inv X pins σ H s ∧ Hold (cnOf X) T O G σ H ρ ∧ Tr O G0 H0 G H
/-- the protocol lets the generator go on behind what does not stop -/
def YGo (X : Cx) (stop : Bool) (Y : Protocol) : Prop := ∀ (m : Nat) (s₀ s : Shared) (kap : Resume → Shared → Prop) (pins : List (Addr × Obj)) (σ : St) (H : Hp) (b : Bool), Inv X pins σ H s → (b == stop) = false → (∀ s'', Woke s s'' → kap (.send .none) s'') → Y m s₀ (.bool b) s kap

section
variable {X : Cx} {T : Fx} {stop : Bool} {elt : Expr} {eltF : M Sl} {gens : List Comprehension} {scope : Scope} {pos : Pos}
theorem segG_items (hc : X.calm = true) (hxe : ∀ u s, ¬ X.xe u s) (hco : X.env.scope.isCoroutine = false) (he : PE X elt (dT (cnOf X) T W0 eltF)) :
    ∀ (cls : List Comprehension) (dcs : List DCl) (cl : Comprehension) (dc : DCl) (k : Nat), (∀ j, gens[k + j]? = (cl :: cls)[j]?) → ClOk X T W0 cl dc → ClIns X T W0 cls dcs → (dc.tg.slots ++ allSlots dcs).Nodup →
    ∀ (mm : Nat) (L : List D) (i : Nat) (ρ : Ev) (b : Bool) (ρ' : Ev), L.length - i = mm → i ≤ L.length → anyItems dc.tg dc.cond (anyGo stop eltF dcs) (L.drop i) ρ = .ok b ρ' →
    ∃ N : Nat, ∀ (Nr n : Nat) (s₀ : Shared) (fs : List Frame) (A : Around) (R : GenEnd) (Y : Protocol) (pins : List (Addr × Obj)) (s : Shared) (σ : St) (H : Hp) (O : Addr → Prop) (G : Hp) (it : Addr) (fp : List Addr) (tn : Nat → Heap → Prop) (J : It),
      N + Nr ≤ n → A.over (cG elt gens scope pos k (.ref it) .none X.env) fs = X.A → splitAtGen fs = none → fs.any Frame.guarded = false → Inv X pins σ H s → Hold (cnOf X) T O G σ H ρ →
      Turn X.prog X.w X.K cl.target J fp it tn → tn i s.heap → (∀ b ∈ fp, FpOk X pins H b) → IterOk (cnOf X) J G L → (∀ j ∈ dc.tg.slots ++ allSlots dcs, ∀ v, σ[j]? ≠ some (some v)) → YGo X stop Y →
      (b = false → ∀ n' s₀' s', Nr ≤ n' → GAt X T pins O G H σ ρ' s' → Seg (model X.prog X.w) A R Y n' s₀' (cG elt gens scope pos k (.ref it) .none X.env) (.pure (.done .next)) fs s') →
      (b = true → ∀ m s₀' s4 kap pins'' σ'' H'' G'' bb, (bb == stop) = true → Inv X pins'' σ'' H'' s4 → Hold (cnOf X) T O G'' σ'' H'' ρ' → Tr O G H G'' H'' → (∀ j, j ∉ dc.tg.slots ++ allSlots dcs → σ''[j]? = σ[j]?) → σ''.length = σ.length → Y m s₀' (.bool bb) s4 kap) →
      Seg (model X.prog X.w) A R Y n s₀ (cG elt gens scope pos k (.ref it) .none X.env) ((model X.prog X.w).den (cG elt gens scope pos k (.ref it) .none X.env)) fs s := by
  intro cls
  induction cls with
  | nil =>
    intro dcs cl dc k hk ok hin nd mm
    cases hin
    obtain ⟨t, i0, ifs, as⟩ := cl
    obtain ⟨has, pg, pt⟩ := ok
    cases has
    have hk0 : gens[k]? = some ⟨t, i0, ifs, 0⟩ := by have := hk 0; simpa using this
    have hk1 : gens[k + 1]? = none := by have := hk 1; simpa using this
    induction mm with
    | zero =>
      intro L i ρ b ρ' hm hi hce
      have hi' : i = L.length := by omega
      subst hi'
      rw [List.drop_length] at hce
      simp only [anyItems] at hce
      cases hce
      refine ⟨0, fun Nr n s₀ fs A R Y pins s σ H O G it fp tn J hn hA hsp hgd I hold Tn st hf io hσ hY hend hstp => ?_⟩
      refine segG_in hk0 hk1 hco hsp hgd ?_
      rw [hA]
      refine thnX (Tn.done X rfl rfl rfl hc _ pins s σ H (fun _ _ => False) I hf st (io.stop G H _ (fun _ _ h => h) hold.sub (Nat.le_refl _))) (fun _ _ z => z) fun r s1 ⟨hr, I1⟩ => ?_
      subst hr
      exact hend rfl n s₀ s1 (by omega) ⟨H, G, I1, hold, .refl⟩
    | succ mm ih =>
      intro L i ρ b ρ' hm hi hce
      have hlt : i < L.length := by omega
      have hd : L.drop i = L[i] :: L.drop (i + 1) := List.drop_eq_getElem_cons hlt
      rw [hd] at hce
      simp only [anyItems] at hce
      cases q1 : assignT dc.tg L[i] ρ with
      | none => rw [q1] at hce; cases hce
      | some ρ1 =>
      rw [q1] at hce
      simp only at hce
      cases q2 : dc.cond ρ1 with
      | bad => rw [q2] at hce; cases hce
      | exc x ρx => rw [q2] at hce; cases hce
      | ok bc ρ2 =>
      rw [q2] at hce
      simp only [Res.bind_ok] at hce
      -- the number of items that come, chosen by the data
      have main : ∀ (N : Nat) (Nr n : Nat) (s₀ : Shared) (fs : List Frame) (A : Around) (R : GenEnd) (Y : Protocol) (pins : List (Addr × Obj)) (s : Shared) (σ : St) (H : Hp) (O : Addr → Prop) (G : Hp) (it : Addr) (fp : List Addr) (tn : Nat → Heap → Prop) (J : It),
          A.over (cG elt gens scope pos k (.ref it) .none X.env) fs = X.A → splitAtGen fs = none → fs.any Frame.guarded = false → Inv X pins σ H s → Hold (cnOf X) T O G σ H ρ →
          Turn X.prog X.w X.K t J fp it tn → tn i s.heap → (∀ b ∈ fp, FpOk X pins H b) → IterOk (cnOf X) J G L → (∀ j ∈ dc.tg.slots ++ allSlots [], ∀ v, σ[j]? ≠ some (some v)) →
          (∀ s4 σ3 H4 G4 pins4, (∀ j, j ∉ dc.tg.slots → σ3[j]? = σ[j]?) → σ3.length = σ.length → Inv X pins4 σ3 H4 s4 → Hold (cnOf X) T O G4 σ3 H4 ρ2 → Tr O G H G4 H4 → Same G G4 →
            -- back to the start of a turn
            (∀ s5 H5 G5 ρ5, Inv X pins4 σ3 H5 s5 → Hold (cnOf X) T O G5 σ3 H5 ρ5 → Tr O G4 H4 G5 H5 → Inv X pins σ H5 s5 ∧ Hold (cnOf X) T O G5 σ H5 (wipeE ρ5 dc.tg.slots) ∧ tn (i + 1) s5.heap ∧ ∀ b ∈ fp, FpOk X pins H5 b) →
            if bc = true then wpAny (model X.prog X.w) X.A (eval elt X.env) (fun v s₄ => ∃ m, n = m + 1 ∧ ∀ kap : Resume → Shared → Prop,
                (∀ s'', Seg (model X.prog X.w) A R Y m s'' (cG elt gens scope pos k (.ref it) .none X.env) (.pure (.again (cG elt gens scope pos k (.ref it) .none X.env))) fs s'' → kap (.send .none) s'') → Y m s₀ v s₄ kap) (fun _ _ => False) s4
            else Seg (model X.prog X.w) A R Y n s₀ (cG elt gens scope pos k (.ref it) .none X.env) (.pure (.again (cG elt gens scope pos k (.ref it) .none X.env))) fs s4) →
          Seg (model X.prog X.w) A R Y n s₀ (cG elt gens scope pos k (.ref it) .none X.env) ((model X.prog X.w).den (cG elt gens scope pos k (.ref it) .none X.env)) fs s := by
        intro N Nr n s₀ fs A R Y pins s σ H O G it fp tn J hA hsp hgd I hold Tn st hf io hσ hnext
        have fpok : ∀ H', (∀ b ∈ fp, H' b = none) → ∀ b ∈ fp, FpOk X pins H' b := fun H' hn b hb => ⟨hn b hb, (hf b hb).2⟩
        refine segG_in hk0 hk1 hco hsp hgd ?_
        rw [hA]
        refine thnX (Tn.item X rfl rfl rfl hc i pins s σ H (fun _ _ => False) I hf st (io.go G H i (fun _ _ h => h) hold.sub hlt)) (fun _ _ z => z) fun r s1 ⟨u, hr, h1⟩ => ?_
        subst hr
        refine thnX h1 (fun _ _ z => z) fun _ s2 ⟨x, H2, I2, r2, y2, st2, fn2⟩ => ?_
        obtain ⟨d, G2, hid, tn2, rep2⟩ := io.yld G H i x H2 (fun _ _ h => h) hold.sub hold.ntb hlt y2
        have hdd : d = L[i] := by rw [List.getElem?_eq_getElem hlt] at hid; exact (Option.some.inj hid).symm
        subst hdd
        have hold2 := hold.trn tn2
        have I2' := I2.pinned (fpok H2 fn2) (Tn.obj _ _ st2)
        refine thnX (pg.run _ s2 σ H2 x u (fun σ3 H3 => H3 = H2 ∧ (∀ j, j ∉ dc.tg.slots → σ3[j]? = σ[j]?) ∧ σ3.length = σ.length ∧ Hold (cnOf X) T O G2 σ3 H2 ρ1) I2' r2 ⟨O, G2, ρ, L[i], hold2, rep2, ρ1, q1, fun σ3 h1 h2 h3 => ⟨rfl, h1, h2, h3⟩⟩) hxe fun _ s3 ⟨σ3, H3, I3, e3, hs3, hl3, hold3⟩ => ?_
        subst e3
        refine thnX (pt.run _ s3 σ3 H3 (fun b' H4 => b' = bc ∧ ∃ G4, Tr O G2 H3 G4 H4 ∧ Hold (cnOf X) T O G4 σ3 H4 ρ2) I3 ⟨O, G2, ρ1, hold3, by rw [q2]; exact fun G4 H4 t4 h4 => ⟨rfl, G4, t4, h4⟩⟩) hxe fun b' s4 ⟨H4, I4, e4, G4, tr4, hold4⟩ => ?_
        subst e4
        refine hnext s4 σ3 H4 G4 _ hs3 hl3 I4 hold4 (Tr.trans' tn2.tr tr4) (Same.trans tn2.g tr4.g) fun s5 H5 G5 ρ5 I5 hold5 tr5 => ?_
        have pin' : ∀ b ∈ fp, ∀ o, s2.heap.get? b = some o → s5.heap.get? b = some o ∧ H5 b = none := fun b hb o eo =>
          let z := I5.pin (b, o) (List.mem_append_right _ (List.mem_append_right _ (mem_pinsAt hb eo)))
          ⟨z.1, z.2.1⟩
        refine ⟨I5.unpinned.weak hl3.symm (fun j v ej => ?_), hold5.wiped hl3.symm hold.lnt hs3, Tn.keep _ _ _ st2 fun b hb o eo => (pin' b hb o eo).1, fpok H5 fun b hb => ?_⟩
        · rw [hs3 j (fun hj => hσ j (List.mem_append_left _ hj) v ej)]
          exact ej
        · obtain ⟨o, eo, _⟩ := Tn.obj _ _ st2 b hb
          exact (pin' b hb o eo).2
      cases bc with
      | false =>
        simp only [Bool.false_eq_true, if_false] at hce main
        obtain ⟨N, hN⟩ := ih L (i + 1) _ b ρ' (by omega) (by omega) hce
        refine ⟨N, fun Nr n s₀ fs A R Y pins s σ H O G it fp tn J hn hA hsp hgd I hold Tn st hf io hσ hY hend hstp => ?_⟩
        refine main 0 0 n s₀ fs A R Y pins s σ H O G it fp tn J hA hsp hgd I hold Tn st hf io hσ fun s4 σ3 H4 G4 pins4 hs3 hl3 I4 hold4 tr4 sg4 back => ?_
        obtain ⟨I5, hold5, st5, hf5⟩ := back s4 H4 G4 ρ2 I4 hold4 .refl
        refine seg_again rfl (hN Nr n s₀ fs A R Y pins s4 σ H4 O G4 it fp tn J hn hA hsp hgd I5 hold5 Tn st5 hf5 (io.mono sg4) hσ hY (fun e n' s₀' s' hn' ⟨H6, G6, I6, hold6, tr6⟩ => hend e n' s₀' s' hn' ⟨H6, G6, I6, hold6, tr4.trans' tr6⟩)
          fun e m s₀' s6 kap pins6 σ6 H6 G6 bb hbb I6 hold6 tr6 h1 h2 => hstp e m s₀' s6 kap pins6 σ6 H6 G6 bb hbb I6 hold6 (tr4.trans' tr6) h1 h2)
      | true =>
        simp only [if_true, anyGo, eltB] at hce main
        cases q3 : eltF ρ2 with
        | bad => rw [q3] at hce; cases hce
        | exc x ρx => rw [q3] at hce; cases hce
        | ok r ρ3 =>
        rw [q3] at hce
        simp only [Res.bind_ok] at hce
        cases r with
        | own o => cases hce
        | val d =>
        cases d with
        | bool be =>
          simp only [Res.bind_ok] at hce
          by_cases hst : (be == stop) = true
          · rw [if_pos hst] at hce
            cases hce
            refine ⟨1, fun Nr n s₀ fs A R Y pins s σ H O G it fp tn J hn hA hsp hgd I hold Tn st hf io hσ hY hend hstp => ?_⟩
            refine main 0 0 n s₀ fs A R Y pins s σ H O G it fp tn J hA hsp hgd I hold Tn st hf io hσ fun s4 σ3 H4 G4 pins4 hs3 hl3 I4 hold4 tr4 sg4 back => ?_
            refine thnX (he.run pins4 s4 σ3 H4 (fun v H5 => v = .bl be ∧ ∃ G5, Tr O G4 H4 G5 H5 ∧ Hold (cnOf X) T O G5 σ3 H5 ρ') I4 ⟨O, G4, ρ2, hold4, by rw [q3]; exact fun v G5 H5 t5 h5 r5 => ⟨by cases (show Rep (cnOf X) G5 v (.bool be) from r5); rfl, G5, t5, h5⟩⟩) hxe fun v s5 ⟨v5, H5, I5, rv, ev, G5, tr5, hold5⟩ => ?_
            subst ev
            cases (show v = Value.bool be from rv)
            obtain ⟨m, rfl⟩ : ∃ m, n = m + 1 := ⟨n - 1, by omega⟩
            refine ⟨m, rfl, fun kap hkap => ?_⟩
            refine hstp rfl m s₀ s5 kap pins4 σ3 H5 G5 be hst I5 hold5 (tr4.trans' tr5) (fun j hj => hs3 j fun z => hj (List.mem_append_left _ z)) hl3
          · rw [if_neg hst] at hce
            obtain ⟨N, hN⟩ := ih L (i + 1) _ b ρ' (by omega) (by omega) hce
            refine ⟨N + 1, fun Nr n s₀ fs A R Y pins s σ H O G it fp tn J hn hA hsp hgd I hold Tn st hf io hσ hY hend hstp => ?_⟩
            refine main 0 0 n s₀ fs A R Y pins s σ H O G it fp tn J hA hsp hgd I hold Tn st hf io hσ fun s4 σ3 H4 G4 pins4 hs3 hl3 I4 hold4 tr4 sg4 back => ?_
            refine thnX (he.run pins4 s4 σ3 H4 (fun v H5 => v = .bl be ∧ ∃ G5, Tr O G4 H4 G5 H5 ∧ Hold (cnOf X) T O G5 σ3 H5 ρ3) I4 ⟨O, G4, ρ2, hold4, by rw [q3]; exact fun v G5 H5 t5 h5 r5 => ⟨by cases (show Rep (cnOf X) G5 v (.bool be) from r5); rfl, G5, t5, h5⟩⟩) hxe fun v s5 ⟨v5, H5, I5, rv, ev, G5, tr5, hold5⟩ => ?_
            subst ev
            cases (show v = Value.bool be from rv)
            obtain ⟨m, rfl⟩ : ∃ m, n = m + 1 := ⟨n - 1, by omega⟩
            refine ⟨m, rfl, fun kap hkap => ?_⟩
            refine hY m s₀ s5 kap pins4 σ3 H5 be I5 (by simpa using hst) fun s'' wk => hkap s'' ?_
            have I6 := Inv.woke I5 wk
            obtain ⟨I7, hold7, st7, hf7⟩ := back s'' H5 G5 ρ3 I6 hold5 tr5
            refine seg_again rfl (hN Nr m s'' fs A R Y pins s'' σ H5 O G5 it fp tn J (by omega) hA hsp hgd I7 hold7 Tn st7 hf7 (io.mono (sg4.trans tr5.g)) hσ hY
              (fun e n' s₀' s' hn' ⟨H8, G8, I8, hold8, tr8⟩ => hend e n' s₀' s' hn' ⟨H8, G8, I8, hold8, (tr4.trans' tr5).trans' tr8⟩)
              fun e m' s₀' s8 kap pins8 σ8 H8 G8 bb hbb I8 hold8 tr8 h1 h2 => hstp e m' s₀' s8 kap pins8 σ8 H8 G8 bb hbb I8 hold8 ((tr4.trans' tr5).trans' tr8) h1 h2)
        | _ => cases hce
  | cons cl1 cls ihc =>
    intro dcs cl dc k hk ok hin nd mm
    cases hin with
    | cons hin1 hins =>
    rename_i dc1 dcs1
    obtain ⟨t, i0, ifs, as⟩ := cl
    obtain ⟨has, pg, pt⟩ := ok
    cases has
    obtain ⟨t1, i1, ifs1, as1⟩ := cl1
    obtain ⟨ok1, pi1, fd1⟩ := id hin1
    have has1 : as1 = 0 := ok1.as
    subst has1
    have hk0 : gens[k]? = some ⟨t, i0, ifs, 0⟩ := by have := hk 0; simpa using this
    have hk1 : gens[k + 1]? = some ⟨t1, i1, ifs1, 0⟩ := by have := hk 1; simpa using this
    have nd2 : (dc1.tg.slots ++ allSlots dcs1).Nodup := (List.nodup_append.mp nd).2.1
    induction mm with
    | zero =>
      intro L i ρ b ρ' hm hi hce
      have hi' : i = L.length := by omega
      subst hi'
      rw [List.drop_length] at hce
      simp only [anyItems] at hce
      cases hce
      refine ⟨0, fun Nr n s₀ fs A R Y pins s σ H O G it fp tn J hn hA hsp hgd I hold Tn st hf io hσ hY hend hstp => ?_⟩
      refine segG_out hk0 hk1 fd1 ?_
      rw [hA]
      refine thnX (Tn.done X rfl rfl rfl hc _ pins s σ H (fun _ _ => False) I hf st (io.stop G H _ (fun _ _ h => h) hold.sub (Nat.le_refl _))) (fun _ _ z => z) fun r s1 ⟨hr, I1⟩ => ?_
      subst hr
      exact hend rfl n s₀ s1 (by omega) ⟨H, G, I1, hold, .refl⟩
    | succ mm ih =>
      intro L i ρ b ρ' hm hi hce
      have hlt : i < L.length := by omega
      have hd : L.drop i = L[i] :: L.drop (i + 1) := List.drop_eq_getElem_cons hlt
      rw [hd] at hce
      simp only [anyItems] at hce
      cases q1 : assignT dc.tg L[i] ρ with
      | none => rw [q1] at hce; cases hce
      | some ρ1 =>
      rw [q1] at hce
      simp only at hce
      cases q2 : dc.cond ρ1 with
      | bad => rw [q2] at hce; cases hce
      | exc x ρx => rw [q2] at hce; cases hce
      | ok bc ρ2 =>
      rw [q2] at hce
      simp only [Res.bind_ok] at hce
      have main : ∀ (N : Nat) (Nr n : Nat) (s₀ : Shared) (fs : List Frame) (A : Around) (R : GenEnd) (Y : Protocol) (pins : List (Addr × Obj)) (s : Shared) (σ : St) (H : Hp) (O : Addr → Prop) (G : Hp) (it : Addr) (fp : List Addr) (tn : Nat → Heap → Prop) (J : It),
          A.over (cG elt gens scope pos k (.ref it) .none X.env) fs = X.A → splitAtGen fs = none → fs.any Frame.guarded = false → Inv X pins σ H s → Hold (cnOf X) T O G σ H ρ →
          Turn X.prog X.w X.K t J fp it tn → tn i s.heap → (∀ b ∈ fp, FpOk X pins H b) → IterOk (cnOf X) J G L → (∀ j ∈ dc.tg.slots ++ allSlots (dc1 :: dcs1), ∀ v, σ[j]? ≠ some (some v)) →
          (∀ s4 σ3 H4 G4 pins4, (∀ j, j ∉ dc.tg.slots → σ3[j]? = σ[j]?) → σ3.length = σ.length → Inv X pins4 σ3 H4 s4 → Hold (cnOf X) T O G4 σ3 H4 ρ2 → Tr O G H G4 H4 → Same G G4 →
            (∀ s5 H5 G5 ρ5, Inv X pins4 σ3 H5 s5 → Hold (cnOf X) T O G5 σ3 H5 ρ5 → Tr O G4 H4 G5 H5 → Inv X pins σ H5 s5 ∧ Hold (cnOf X) T O G5 σ H5 (wipeE ρ5 dc.tg.slots) ∧ tn (i + 1) s5.heap ∧ ∀ b ∈ fp, FpOk X pins H5 b) →
            if bc = true then wpAny (model X.prog X.w) X.A (eval i1 X.env) (fun x s₄ => wpAny (model X.prog X.w) X.A (pyIter x) (fun it1 s₅ =>
              ∀ (KK : Result → Sem PySem.Fin) (lvl : List Value) (p : Pos), (∀ n' s₀' f s'', Seg (model X.prog X.w) A R Y n' s₀' (cG elt gens scope pos k (.ref it) .none X.env) (.pure (.again (cG elt gens scope pos k (.ref it) .none X.env))) fs s'' → Seg (model X.prog X.w) A R Y n' s₀' (cG elt gens scope pos k (.ref it) .none X.env) (KK (.ok f)) fs s'') →
                Seg (model X.prog X.w) A R Y n s₀ (.compStart (.GeneratorExp elt gens scope pos) (k + 1) it1 .none X.env) ((model X.prog X.w).den (.compStart (.GeneratorExp elt gens scope pos) (k + 1) it1 .none X.env)) (.ret KK none false lvl (cG elt gens scope pos k (.ref it) .none X.env) p [] :: fs) s₅) (fun _ _ => False) s₄) (fun _ _ => False) s4
            else Seg (model X.prog X.w) A R Y n s₀ (cG elt gens scope pos k (.ref it) .none X.env) (.pure (.again (cG elt gens scope pos k (.ref it) .none X.env))) fs s4) →
          Seg (model X.prog X.w) A R Y n s₀ (cG elt gens scope pos k (.ref it) .none X.env) ((model X.prog X.w).den (cG elt gens scope pos k (.ref it) .none X.env)) fs s := by
        intro N Nr n s₀ fs A R Y pins s σ H O G it fp tn J hA hsp hgd I hold Tn st hf io hσ hnext
        have fpok : ∀ H', (∀ b ∈ fp, H' b = none) → ∀ b ∈ fp, FpOk X pins H' b := fun H' hn b hb => ⟨hn b hb, (hf b hb).2⟩
        refine segG_out hk0 hk1 fd1 ?_
        rw [hA]
        refine thnX (Tn.item X rfl rfl rfl hc i pins s σ H (fun _ _ => False) I hf st (io.go G H i (fun _ _ h => h) hold.sub hlt)) (fun _ _ z => z) fun r s1 ⟨u, hr, h1⟩ => ?_
        subst hr
        refine thnX h1 (fun _ _ z => z) fun _ s2 ⟨x, H2, I2, r2, y2, st2, fn2⟩ => ?_
        obtain ⟨d, G2, hid, tn2, rep2⟩ := io.yld G H i x H2 (fun _ _ h => h) hold.sub hold.ntb hlt y2
        have hdd : d = L[i] := by rw [List.getElem?_eq_getElem hlt] at hid; exact (Option.some.inj hid).symm
        subst hdd
        have hold2 := hold.trn tn2
        have I2' := I2.pinned (fpok H2 fn2) (Tn.obj _ _ st2)
        refine thnX (pg.run _ s2 σ H2 x u (fun σ3 H3 => H3 = H2 ∧ (∀ j, j ∉ dc.tg.slots → σ3[j]? = σ[j]?) ∧ σ3.length = σ.length ∧ Hold (cnOf X) T O G2 σ3 H2 ρ1) I2' r2 ⟨O, G2, ρ, L[i], hold2, rep2, ρ1, q1, fun σ3 h1 h2 h3 => ⟨rfl, h1, h2, h3⟩⟩) hxe fun _ s3 ⟨σ3, H3, I3, e3, hs3, hl3, hold3⟩ => ?_
        subst e3
        refine thnX (pt.run _ s3 σ3 H3 (fun b' H4 => b' = bc ∧ ∃ G4, Tr O G2 H3 G4 H4 ∧ Hold (cnOf X) T O G4 σ3 H4 ρ2) I3 ⟨O, G2, ρ1, hold3, by rw [q2]; exact fun G4 H4 t4 h4 => ⟨rfl, G4, t4, h4⟩⟩) hxe fun b' s4 ⟨H4, I4, e4, G4, tr4, hold4⟩ => ?_
        subst e4
        refine hnext s4 σ3 H4 G4 _ hs3 hl3 I4 hold4 (Tr.trans' tn2.tr tr4) (Same.trans tn2.g tr4.g) fun s5 H5 G5 ρ5 I5 hold5 tr5 => ?_
        have pin' : ∀ b ∈ fp, ∀ o, s2.heap.get? b = some o → s5.heap.get? b = some o ∧ H5 b = none := fun b hb o eo =>
          let z := I5.pin (b, o) (List.mem_append_right _ (List.mem_append_right _ (mem_pinsAt hb eo)))
          ⟨z.1, z.2.1⟩
        refine ⟨I5.unpinned.weak hl3.symm (fun j v ej => ?_), hold5.wiped hl3.symm hold.lnt hs3, Tn.keep _ _ _ st2 fun b hb o eo => (pin' b hb o eo).1, fpok H5 fun b hb => ?_⟩
        · rw [hs3 j (fun hj => hσ j (List.mem_append_left _ hj) v ej)]
          exact ej
        · obtain ⟨o, eo, _⟩ := Tn.obj _ _ st2 b hb
          exact (pin' b hb o eo).2
      cases bc with
      | false =>
        simp only [Bool.false_eq_true, if_false] at hce main
        obtain ⟨N, hN⟩ := ih L (i + 1) _ b ρ' (by omega) (by omega) hce
        refine ⟨N, fun Nr n s₀ fs A R Y pins s σ H O G it fp tn J hn hA hsp hgd I hold Tn st hf io hσ hY hend hstp => ?_⟩
        refine main 0 0 n s₀ fs A R Y pins s σ H O G it fp tn J hA hsp hgd I hold Tn st hf io hσ fun s4 σ3 H4 G4 pins4 hs3 hl3 I4 hold4 tr4 sg4 back => ?_
        obtain ⟨I5, hold5, st5, hf5⟩ := back s4 H4 G4 ρ2 I4 hold4 .refl
        refine seg_again rfl (hN Nr n s₀ fs A R Y pins s4 σ H4 O G4 it fp tn J hn hA hsp hgd I5 hold5 Tn st5 hf5 (io.mono sg4) hσ hY (fun e n' s₀' s' hn' ⟨H6, G6, I6, hold6, tr6⟩ => hend e n' s₀' s' hn' ⟨H6, G6, I6, hold6, tr4.trans' tr6⟩)
          fun e m s₀' s6 kap pins6 σ6 H6 G6 bb hbb I6 hold6 tr6 h1 h2 => hstp e m s₀' s6 kap pins6 σ6 H6 G6 bb hbb I6 hold6 (tr4.trans' tr6) h1 h2)
      | true =>
        simp only [if_true, anyGo] at hce main
        cases q3 : dc1.it ρ2 with
        | bad => rw [q3] at hce; cases hce
        | exc x ρx => rw [q3] at hce; cases hce
        | ok items1 ρ6 =>
        rw [q3] at hce
        simp only [Res.bind_ok] at hce
        cases q4 : anyItems dc1.tg dc1.cond (anyGo stop eltF dcs1) items1 ρ6 with
        | bad => rw [q4] at hce; cases hce
        | exc x ρx => rw [q4] at hce; cases hce
        | ok st ρ3 =>
        rw [q4] at hce
        simp only [Res.bind_ok] at hce
        obtain ⟨N1, hN1⟩ := ihc dcs1 ⟨t1, i1, ifs1, 0⟩ dc1 (k + 1) (fun j => by have := hk (j + 1); rw [show k + 1 + j = k + (j + 1) by omega]; simpa using this) ok1 hins nd2 items1.length items1 0 ρ6 st ρ3 (by omega) (Nat.zero_le _) (by simpa using q4)
        -- the inner source is begun
        have inner : ∀ (n : Nat) (s₀ : Shared) (fs : List Frame) (A : Around) (R : GenEnd) (Y : Protocol) (it : Addr) (pins4 : List (Addr × Obj)) (s4 : Shared) (σ3 σ : St) (H4 : Hp) (O : Addr → Prop) (G4 : Hp) (Nr' : Nat), N1 + Nr' ≤ n →
            A.over (cG elt gens scope pos k (.ref it) .none X.env) fs = X.A → splitAtGen fs = none → fs.any Frame.guarded = false → Inv X pins4 σ3 H4 s4 → Hold (cnOf X) T O G4 σ3 H4 ρ2 → (∀ j ∈ dc.tg.slots ++ allSlots (dc1 :: dcs1), ∀ v, σ[j]? ≠ some (some v)) → (∀ j, j ∉ dc.tg.slots → σ3[j]? = σ[j]?) → YGo X stop Y →
            (st = false → ∀ n' s₀' s5, Nr' ≤ n' → GAt X T pins4 O G4 H4 σ3 ρ3 s5 → Seg (model X.prog X.w) A R Y n' s₀' (cG elt gens scope pos k (.ref it) .none X.env) (.pure (.again (cG elt gens scope pos k (.ref it) .none X.env))) fs s5) →
            (st = true → ∀ m s₀' s5 kap pins'' σ'' H'' G'' bb, (bb == stop) = true → Inv X pins'' σ'' H'' s5 → Hold (cnOf X) T O G'' σ'' H'' ρ3 → Tr O G4 H4 G'' H'' → (∀ j, j ∉ dc1.tg.slots ++ allSlots dcs1 → σ''[j]? = σ3[j]?) → σ''.length = σ3.length → Y m s₀' (.bool bb) s5 kap) →
            wpAny (model X.prog X.w) X.A (eval i1 X.env) (fun x s₄ => wpAny (model X.prog X.w) X.A (pyIter x) (fun it1 s₅ =>
              ∀ (KK : Result → Sem PySem.Fin) (lvl : List Value) (p : Pos), (∀ n' s₀' f s'', Seg (model X.prog X.w) A R Y n' s₀' (cG elt gens scope pos k (.ref it) .none X.env) (.pure (.again (cG elt gens scope pos k (.ref it) .none X.env))) fs s'' → Seg (model X.prog X.w) A R Y n' s₀' (cG elt gens scope pos k (.ref it) .none X.env) (KK (.ok f)) fs s'') →
                Seg (model X.prog X.w) A R Y n s₀ (.compStart (.GeneratorExp elt gens scope pos) (k + 1) it1 .none X.env) ((model X.prog X.w).den (.compStart (.GeneratorExp elt gens scope pos) (k + 1) it1 .none X.env)) (.ret KK none false lvl (cG elt gens scope pos k (.ref it) .none X.env) p [] :: fs) s₅) (fun _ _ => False) s₄) (fun _ _ => False) s4 := by
          intro n s₀ fs A R Y it pins4 s4 σ3 σ H4 O G4 Nr' hn hA hsp hgd I4 hold4 hσ hs3 hY hend hstp
          refine thnX (pi1.run pins4 s4 σ3 H4 (fun J1 H6 => ∃ G6, Tr O G4 H4 G6 H6 ∧ Hold (cnOf X) T O G6 σ3 H6 ρ6 ∧ IterOk (cnOf X) J1 G6 items1) I4 ⟨O, G4, ρ2, hold4, by rw [q3]; exact fun J1 G6 H6 t6 h6 i6 => ⟨G6, t6, h6, i6⟩⟩) hxe fun xv s6 h6 => ?_
          refine thnX h6 hxe fun itv s7 h7 => ?_
          obtain ⟨it1, fp1, tn1, J1, H6, e1, I7, T1, st7, f7, G6, tr6, hold6, io1⟩ := h7
          subst e1
          intro KK lvl p hKK
          have hσ1 : ∀ j ∈ dc1.tg.slots ++ allSlots dcs1, ∀ v, σ3[j]? ≠ some (some v) := fun j hj v => by
            have hj' : j ∈ allSlots (dc1 :: dcs1) := hj
            rw [hs3 j (fun hm => (List.nodup_append.mp nd).2.2 j hm j hj' rfl)]
            exact hσ j (List.mem_append_right _ hj') v
          have hA1 : A.over (cG elt gens scope pos (k + 1) (.ref it1) .none X.env) (.ret KK none false lvl (cG elt gens scope pos k (.ref it) .none X.env) p [] :: fs) = X.A := (over_loop rfl rfl).trans hA
          have hsp1 : splitAtGen (.ret KK none false lvl (cG elt gens scope pos k (.ref it) .none X.env) p [] :: fs) = none := by
            show (splitAtGen fs).map _ = none
            rw [hsp]; rfl
          have hgd1 : (Frame.ret KK none false lvl (cG elt gens scope pos k (.ref it) .none X.env) p [] :: fs).any Frame.guarded = false := by
            show (false || fs.any Frame.guarded) = false
            rw [hgd]; rfl
          have loop := hN1 Nr' n s₀ (.ret KK none false lvl (cG elt gens scope pos k (.ref it) .none X.env) p [] :: fs) A R Y pins4 s7 σ3 H6 O G6 it1 fp1 tn1 J1 hn hA1 hsp1 hgd1 I7 hold6 T1 st7 f7 io1 hσ1 hY
            (fun e n' s₀' s8 hn' ⟨H8, G8, I8, hold8, tr8⟩ => seg_leaf (.ok .next) (hKK n' s₀' .next s8 (hend e n' s₀' s8 hn' ⟨H8, G8, I8, hold8, tr6.trans' tr8⟩)))
            (fun e m s₀' s8 kap pins8 σ8 H8 G8 bb hbb I8 hold8 tr8 h1 h2 => hstp e m s₀' s8 kap pins8 σ8 H8 G8 bb hbb I8 hold8 (tr6.trans' tr8) h1 h2)
          exact segG_start hk1 loop (T1.self _ _ _ _ _ st7 loop)
        have out : ∀ j, j ∉ dc.tg.slots ++ allSlots (dc1 :: dcs1) → j ∉ dc.tg.slots ∧ j ∉ dc1.tg.slots ++ allSlots dcs1 := fun j hj => by
          rw [List.mem_append, not_or] at hj
          exact hj
        by_cases hst : st = true
        · subst hst
          rw [if_pos rfl] at hce
          cases hce
          refine ⟨N1, fun Nr n s₀ fs A R Y pins s σ H O G it fp tn J hn hA hsp hgd I hold Tn st hf io hσ hY hend hstp => ?_⟩
          refine main 0 0 n s₀ fs A R Y pins s σ H O G it fp tn J hA hsp hgd I hold Tn st hf io hσ fun s4 σ3 H4 G4 pins4 hs3 hl3 I4 hold4 tr4 sg4 back => ?_
          refine inner n s₀ fs A R Y it pins4 s4 σ3 σ H4 O G4 Nr hn hA hsp hgd I4 hold4 hσ hs3 hY (fun e => by cases e) fun _ m s₀' s5 kap pins5 σ5 H5 G5 bb hbb I5 hold5 tr5 h1 h2 => ?_
          exact hstp rfl m s₀' s5 kap pins5 σ5 H5 G5 bb hbb I5 hold5 (tr4.trans' tr5) (fun j hj => (h1 j (out j hj).2).trans (hs3 j (out j hj).1)) (h2.trans hl3)
        · have hsf : st = false := by simpa using hst
          subst hsf
          rw [if_neg hst] at hce
          obtain ⟨N, hN⟩ := ih L (i + 1) _ b ρ' (by omega) (by omega) hce
          refine ⟨N1 + N, fun Nr n s₀ fs A R Y pins s σ H O G it fp tn J hn hA hsp hgd I hold Tn st hf io hσ hY hend hstp => ?_⟩
          refine main 0 0 n s₀ fs A R Y pins s σ H O G it fp tn J hA hsp hgd I hold Tn st hf io hσ fun s4 σ3 H4 G4 pins4 hs3 hl3 I4 hold4 tr4 sg4 back => ?_
          refine inner n s₀ fs A R Y it pins4 s4 σ3 σ H4 O G4 (N + Nr) (by omega) hA hsp hgd I4 hold4 hσ hs3 hY (fun _ n' s₀' s5 hn' ⟨H5, G5, I5, hold5, tr5⟩ => ?_) fun e => by cases e
          obtain ⟨I7, hold7, st7, hf7⟩ := back s5 H5 G5 ρ3 I5 hold5 tr5
          refine seg_again rfl (hN Nr n' s₀' fs A R Y pins s5 σ H5 O G5 it fp tn J hn' hA hsp hgd I7 hold7 Tn st7 hf7 (io.mono (sg4.trans tr5.g)) hσ hY
            (fun e n' s₀' s' hn' ⟨H8, G8, I8, hold8, tr8⟩ => hend e n' s₀' s' hn' ⟨H8, G8, I8, hold8, (tr4.trans' tr5).trans' tr8⟩)
            fun e m' s₀' s8 kap pins8 σ8 H8 G8 bb hbb I8 hold8 tr8 h1 h2 => hstp e m' s₀' s8 kap pins8 σ8 H8 G8 bb hbb I8 hold8 ((tr4.trans' tr5).trans' tr8) h1 h2)
end
end Sd
set_option Elab.async false
set_option linter.all false
set_option maxRecDepth 100000
set_option maxHeartbeats 4000000
set_option autoImplicit false
/-! Sd: any, all of generator expressions: the generator is made; its block; the consumer. -/
namespace Sd
open PySem PySem.Spec PyProof.Rows L2 GenW GxR

theorem eval_GenN (elt target iter : Expr) (ifs : List Expr) (cls : List Comprehension) (scope : Scope) (pos : Pos) (env : PySem.Env) (hco : scope.isCoroutine = false) :
    eval (.GeneratorExp elt (⟨target, iter, ifs, 0⟩ :: cls) scope pos) env = (do
      let x ← eval iter env
      standAt iter.pos
      let x ← genFold iter env x
      let it ← holding [x] (pyIter x)
      enterFrame
      let cl ← closureFor scope env
      let code ← genexprCode env pos (env.qual ++ "<genexpr>") scope
      let bi ← builtinsFor env.globals env.builtins
      let cenv ← newFunctionEnv scope env.globals cl [(".0", it)] (env.qual ++ "<genexpr>.") none code none bi
      newGenerator (.compStart (.GeneratorExp elt (⟨target, iter, ifs, 0⟩ :: cls) scope pos) 0 it .none cenv) "<genexpr>" (env.qual ++ "<genexpr>")) := by
  rw [arm_eval_GeneratorExp]
  simp only [hco, Bool.false_eq_true, if_false]
  cases iter <;> rfl

/-- the scope of a generator expression: own names (with their places) local; captured ones -/
structure GBlk (N : List Str) (sc scope : Scope) (own : List (Str × Nat)) : Prop where
  kind : scope.kind = .function
  co : scope.isCoroutine = false
  ix : ∀ p ∈ own, N[p.2]? = some p.1
  dot : scope.names.lookup (".0" : Str) = some NameKind.local
  cell : ∀ y ∈ scope.names, y.2 ≠ .cell
  uniq : ∀ y ∈ scope.names, scope.names.lookup y.1 = some y.2
  free : ∀ y ∈ scope.names, y.2 = .free → sc.names.lookup y.1 = some .cell ∨ sc.names.lookup y.1 = some .free
  loc : ∀ y ∈ scope.names, y.2 = .local → y.1 ∈ own.map (·.1) ∨ y.1 ∉ N

abbrev genObj (g : Nat) (q : Str) (tk : Nat) : Obj := { cls := .type "generator", data := .fields #[.int g 0, .str "<genexpr>" (tk + 1), .str q (tk + 1 + 1)] }
/-- the context of the generator's block: s4, H4: ahead of its frame; A: the around of its resumption -/
abbrev genX (X : Cx) (A : Around) (s4 : Shared) (H4 : Hp) (cenv : PySem.Env) (fp : List Addr) (pn : List (Addr × Obj)) : Cx :=
  { X with A := A.deeper cenv, s_0 := s4, H_0 := H4, env := cenv, outer := X.stack, stack := cenv :: X.stack, ex := fp, fn := fun _ => false, pn := pn, xe := fun _ _ => False }
theorem over_gen {A : Around} {elt : Expr} {gens : List Comprehension} {scope : Scope} {pos : Pos} {it acc : Value} {env : PySem.Env} : A.over (cG elt gens scope pos 0 it acc env) [] = A.deeper env := by
  first
    | rfl
    | (obtain ⟨hd, d, fr, gs, u⟩ := A; simp [Around.over, Around.deeper, marksOver, frameCount, unitsOf, envsOf, guardsOf, pushEnvs, pushGuards, Code.envs, Code.env?, Code.isFrame, Code.guards, Code.isGuard, Code.weight, Code.frames, Code.isCreation, Code.isCaller, Code.cUnits])
theorem over_genS {A : Around} {elt : Expr} {gens : List Comprehension} {scope : Scope} {pos : Pos} {it acc : Value} {env : PySem.Env} : A.over (.compStart (.GeneratorExp elt gens scope pos) 0 it acc env) [] = A.deeper env := by
  first
    | rfl
    | (obtain ⟨hd, d, fr, gs, u⟩ := A; simp [Around.over, Around.deeper, marksOver, frameCount, unitsOf, envsOf, guardsOf, pushEnvs, pushGuards, Code.envs, Code.env?, Code.isFrame, Code.guards, Code.isGuard, Code.weight, Code.frames, Code.isCreation, Code.isCaller, Code.cUnits])

section
variable {X : Cx} {pins : List (Addr × Obj)} {σ : St} {H : Hp} {s : Shared}
theorem gen_start {A : Around} {scope : Scope} {own : List (Str × Nat)} {fp : List Addr} {code : Value} {s5 : Shared} {pn : List (Addr × Obj)} {mm : Str → Option Value}
    (I : Inv X pins σ H s) (hA : A.handled = none) (hAf : A.frames = some X.stack) (ok : GBlk X.N X.env.scope scope own) (hN : X.N.Nodup) (hfp : ∀ b ∈ fp, FpOk X pins H b ∧ b < s.heap.objs.size)
    (hn5 : s5.heap.Ns s.heap.objs.size mm) (hk5 : ∀ b o, s.heap.get? b = some o → s5.heap.get? b = some o) (hos : s5.os = s.os) (hb5 : AllBare s5.gens)
    (hpn : ∀ p ∈ pn, s5.heap.get? p.1 = some p.2 ∧ s.heap.objs.size < p.1 ∧ ∀ v, p.2.data ≠ .cell v) :
    Inv (genX X A s H (genEnv scope (cloFrom X.env.cells scope.names []) s.heap.objs.size code builtinsNs X.env) fp pn) [] (wipe σ (own.map (·.2))) H s5 := by
  have hfree : ∀ y ∈ scope.names, y.2 = .free → ∃ c, X.env.cells.lookup y.1 = some c := fun y hy e => by
    rcases ok.free y hy e with k | k
    · exact I.ok.has _ (.inl k)
    · exact I.ok.has _ (.inr k)
  generalize hcenv : genEnv scope (cloFrom X.env.cells scope.names []) s.heap.objs.size code builtinsNs X.env = cenv
  have hL : cenv.locals = s.heap.objs.size := by rw [← hcenv]; rfl
  have hcl : cenv.cells = cloFrom X.env.cells scope.names [] := by rw [← hcenv]; rfl
  have hsc : cenv.scope = scope := by rw [← hcenv]; rfl
  have hbi : cenv.builtins = builtinsNs := by rw [← hcenv]; rfl
  have cm : ∀ {y c}, (y, c) ∈ cloFrom X.env.cells scope.names [] → X.env.cells.lookup y = some c ∧ c < s.heap.objs.size := fun {y c} hm => by
    rcases cloFrom_mem hm with hm | ⟨h1, rfl⟩
    · cases hm
    · obtain ⟨c, hc⟩ := hfree _ h1 rfl
      rw [hc]
      obtain ⟨w, z⟩ := I.cell _ _ hc
      exact ⟨rfl, z.lt⟩
  have mem : ∀ {y c}, cenv.cells.lookup y = some c → X.env.cells.lookup y = some c ∧ c < s.heap.objs.size := fun {y c} e => by
    rw [hcl] at e
    exact cm (PySem.mem_of_lookup e)
  have look : ∀ {y}, scope.names.lookup y = some .free → ∃ c, cenv.cells.lookup y = some c ∧ X.env.cells.lookup y = some c := fun {y} hl => by
    have hy : (y, NameKind.free) ∈ scope.names := PySem.mem_of_lookup hl
    obtain ⟨c', e'⟩ := mem_lookup (cloFrom_has (cells := X.env.cells) (acc := []) hy)
    rw [← hcl] at e'
    exact ⟨c', e', (mem e').1⟩
  have okB : (genX X A s H cenv fp pn).Ok := by
    refine ⟨I.ok.mod, by show cenv.scope.kind = _; rw [hsc]; exact ok.kind, by show cenv.globals = _; rw [← hcenv]; exact I.ok.glob, by show cenv.builtins = _; exact hbi, by show s.heap.objs.size ≤ cenv.locals; rw [hL]; exact Nat.le_refl _,
      fun y z c e1 e2 => I.ok.inj y z c (mem e1).1 (mem e2).1, fun y hy => ?_, fun y c z e => absurd z Bool.false_ne_true, fun _ => hA, Around.frames_deeper hAf, .inr ⟨rfl, ?_⟩, fun b hb => ⟨?_, fun y c e z => (hfp b hb).1.2.2.2.2.1 y c (mem e).1 z⟩, I.bs, Nat.le_trans I.ok.bsz I.sz, fun b o e hb => ?_, fun b hb z => ?_, I.stack, I.stkFree⟩
    · show ∃ c, cenv.cells.lookup y = some c
      have key : ∀ k, scope.names.lookup y = some k → (k = .cell ∨ k = .free) → ∃ c, cenv.cells.lookup y = some c := fun k hk hk' => by
        rcases hk' with rfl | rfl
        · exact absurd rfl (ok.cell _ (PySem.mem_of_lookup hk))
        · obtain ⟨c, h1, _⟩ := look hk
          exact ⟨c, h1⟩
      have hy : cenv.scope.names.lookup y = some .cell ∨ cenv.scope.names.lookup y = some .free := hy
      rw [hsc] at hy
      rcases hy with hy | hy
      · exact key _ hy (.inl rfl)
      · exact key _ hy (.inr rfl)
    · show cenv.frame = some cenv.locals
      rw [← hcenv]
      rfl
    · show b ≠ cenv.locals
      rw [hL]; exact Nat.ne_of_lt (hfp b hb).2
    · rcases (hfp b hb).1.2.2.2.1 with z | z
      · exact I.ok.noex b o e z
      · exact absurd (Nat.lt_of_lt_of_le (Heap.lt_size e) (Nat.le_trans I.ok.bsz z)) (Nat.lt_irrefl _)
    · rcases List.mem_cons.mp (I.stkSub b z) with z | z
      · exact (hfp b hb).1.2.1 z
      · exact (hfp b hb).1.2.2.1 z
  refine ⟨okB, hos, hb5, Un.kept hk5, ⟨mm, ?_, fun i y av e1 e2 e3 => ?_⟩, fun y c e => ?_, ?_, fun y c e => ?_, fun p hp => ?_, I.hok.kept hk5, by rw [wipe_length]; exact I.len⟩
  · show Heap.Ns _ cenv.locals _
    rw [hL]
    exact hn5
  · obtain ⟨e2, hne⟩ := wipe_some e2
    have e3 : Vis cenv.scope y := e3
    rw [hsc] at e3
    have hfr : scope.names.lookup y = some .free := by
      rcases e3 with e3 | e3 | e3
      · exfalso
        rcases ok.loc _ (PySem.mem_of_lookup e3) rfl with e' | e'
        · obtain ⟨p, hp, hpy⟩ := List.mem_map.mp e'
          have e4 := ok.ix p hp
          have : p.1 = y := hpy
          rw [this] at e4
          exact hne (List.mem_map.mpr ⟨p, hp, nodup_ix hN e4 e1⟩)
        · exact e' (List.mem_of_getElem? e1)
      · exact absurd rfl (ok.cell _ (PySem.mem_of_lookup e3))
      · exact e3
    obtain ⟨m, hn, hl⟩ := I.loc
    have hvis : Vis X.env.scope y := (ok.free _ (PySem.mem_of_lookup hfr) rfl).elim (fun k => .inr (.inl k)) (fun k => .inr (.inr k))
    obtain ⟨w, r, q⟩ := hl i y av e1 e2 hvis
    refine ⟨w, r, .inr ⟨.inr ?_, ?_⟩⟩
    · show cenv.scope.names.lookup y = _
      rw [hsc]; exact hfr
    obtain ⟨c, h1, h2⟩ := look hfr
    rcases q with ⟨k, _⟩ | ⟨_, c', e', z⟩
    · have k : X.env.scope.names.lookup y = some .local := k
      rcases ok.free _ (PySem.mem_of_lookup hfr) rfl with k' | k' <;> rw [show X.env.scope.names.lookup y = _ from k'] at k <;> cases k
    · rw [h2] at e'; cases e'
      exact ⟨c, h1, z.keeps hk5⟩
  · obtain ⟨h1, _⟩ := mem e
    obtain ⟨w, z⟩ := I.cell y c h1
    exact ⟨w, z.keeps hk5⟩
  · show H cenv.locals = none
    rw [hL]; exact I.hok.fresh (Nat.le_refl _)
  · exact I.freeC y c (mem e).1
  · have hp : p ∈ pn := by
      have hp : p ∈ pn ++ [] := hp
      simpa using hp
    obtain ⟨h1, h2, h3⟩ := hpn p hp
    refine ⟨h1, I.hok.fresh (Nat.le_of_lt h2), ?_, ?_, h3⟩
    · show p.1 ≠ cenv.locals
      rw [hL]; exact Nat.ne_of_gt h2
    · intro hb
      have hb : p.1 ∈ frs X.stack := hb
      rcases List.mem_cons.mp (I.stkSub p.1 hb) with z | z
      · have := I.lt
        rw [← z] at this
        exact absurd (Nat.lt_trans h2 this) (Nat.lt_irrefl _)
      · exact I.nofs (Nat.le_of_lt h2) z
end

/-! ### the consumer -/
/-- what the generator says to all, any -/
def GY' (stop : Bool) (a : Addr) (g : Nat) (Stp : Shared → Prop) : Protocol := fun n s₀ v s kap =>
  ∃ b, v = Value.bool b ∧ AllBare s.gens ∧ s.heap.NoLimit ∧ s.heap.IsGen a g ∧ ((b == stop) = true → Stp s) ∧ ((b == stop) = false → ∀ s', Woke s s' → kap (.send .none) s')
def GR' (Fin : Shared → Prop) : GenEnd := fun n s₀ r s => r = .ok .next ∧ Fin s
section
variable {prog : Program} {w : World} {A : Around} {R : Result → Shared → Prop}
theorem consume_all {a : Addr} {g : Nat} {Stp Fin : Shared → Prop} (hh : A.handled = none) (hd : A.depth < recursionLimit)
    (hfin : ∀ s1, Fin s1 → ∀ h', (∀ b o, s1.heap.get? b = some o → h'.get? b = some o) → R (.ok (.ret (.bool true))) { s1.setGen g .finished with heap := h' })
    (hstp : ∀ (s1 : Shared) (gs' : GenState), gs'.bare = true → AllBare s1.gens → Stp s1 → R (.ok (.ret (.bool false))) (s1.setGen g gs')) :
    ∀ (n : Nat) (s : Shared), s.heap.IsGen a g → s.heap.NoLimit → AllBare s.gens → (∃ gs, s.gens[g]? = some gs ∧ ∀ s', Woke s s' → gs.Goes (model prog w) A.in1.in1 (GR' Fin) (GY' false a g Stp) n (.send .none) s') →
      codeAny (model prog w) A (.builtin "all.loop" ⟨[.ref a], []⟩) R s := by
  intro n
  induction n with
  | zero =>
    intro s hg hl hb ⟨gs, hgs, hgo⟩
    have hgl : g < s.gens.size := (Array.getElem?_eq_some_iff.mp hgs).1
    refine codeAny_builtin F.entry_all_loop ?_
    rw [Around.under_plainId F.plain_all_loop _]
    show wpAny _ A.in1 (pyNext (.ref a) >>= _) _ _ s
    refine wpAny_bind (wpAny_pyNext_genexpQ (A := A.in1) (P := fun n s₀ s1 => Fin s1) hh hl hd hg hgs (hgo _ ⟨rfl, rfl, allBare_setGen hb rfl⟩) (fun v s₁ gs' hbare hv => ?_) (fun s₁ hp h' hk => ?_))
    · obtain ⟨b, rfl, hb1, hl1, hg1, q1, q2⟩ := hv
      cases b with
      | true => exact (q2 (by rfl) s₁ ⟨rfl, rfl, hb1⟩).elim
      | false =>
        refine wpAny_bind (wpAny_holding (wpAny_truthy_bool ?_))
        refine wpAny_bind (wpAny_letGo ?_)
        exact wpAny_bind (wpAny_rule (wpAny_pure (hstp s₁ gs' hbare hb1 (q1 (by rfl)))))
    · exact wpAny_bind (wpAny_rule (wpAny_pure (hfin s₁ hp h' hk)))
  | succ n ih =>
    intro s hg hl hb ⟨gs, hgs, hgo⟩
    have hgl : g < s.gens.size := (Array.getElem?_eq_some_iff.mp hgs).1
    refine codeAny_builtin F.entry_all_loop ?_
    rw [Around.under_plainId F.plain_all_loop _]
    show wpAny _ A.in1 (pyNext (.ref a) >>= _) _ _ s
    refine wpAny_bind (wpAny_gsz (n := g + 1) hgl (wpAny_pyNext_genexpQ (A := A.in1) (P := fun n s₀ s1 => Fin s1) hh hl hd hg hgs (hgo _ ⟨rfl, rfl, allBare_setGen hb rfl⟩) (fun v s₁ gs' hbare hv => ?_) (fun s₁ hp h' hk => ?_)))
    · intro hsz
      obtain ⟨b, rfl, hb1, hl1, hg1, q1, q2⟩ := hv
      have hgl1 : g < s₁.gens.size := by
        have q : (s₁.setGen g gs').gens.size = s₁.gens.size := setGen_size s₁ g gs'
        omega
      cases b with
      | true =>
        refine wpAny_bind (wpAny_holding (wpAny_truthy_bool ?_))
        refine wpAny_bind (wpAny_letGo ?_)
        refine wpAny_pure ⟨plainId_quiet F.plain_all_loop _, ih (s₁.setGen g gs') hg1 hl1 (allBare_setGen hb1 hbare) ⟨gs', setGen_at hgl1, fun s' wk => q2 (by rfl) s' ⟨wk.heap, wk.os, wk.bare⟩⟩⟩
      | false =>
        refine wpAny_bind (wpAny_holding (wpAny_truthy_bool ?_))
        refine wpAny_bind (wpAny_letGo ?_)
        exact wpAny_bind (wpAny_rule (wpAny_pure (hstp s₁ gs' hbare hb1 (q1 (by rfl)))))
    · intro _
      exact wpAny_bind (wpAny_rule (wpAny_pure (hfin s₁ hp h' hk)))
theorem consume_any {a : Addr} {g : Nat} {Stp Fin : Shared → Prop} (hh : A.handled = none) (hd : A.depth < recursionLimit)
    (hfin : ∀ s1, Fin s1 → ∀ h', (∀ b o, s1.heap.get? b = some o → h'.get? b = some o) → R (.ok (.ret (.bool false))) { s1.setGen g .finished with heap := h' })
    (hstp : ∀ (s1 : Shared) (gs' : GenState), gs'.bare = true → AllBare s1.gens → Stp s1 → R (.ok (.ret (.bool true))) (s1.setGen g gs')) :
    ∀ (n : Nat) (s : Shared), s.heap.IsGen a g → s.heap.NoLimit → AllBare s.gens → (∃ gs, s.gens[g]? = some gs ∧ ∀ s', Woke s s' → gs.Goes (model prog w) A.in1.in1 (GR' Fin) (GY' true a g Stp) n (.send .none) s') →
      codeAny (model prog w) A (.builtin "any.loop" ⟨[.ref a], []⟩) R s := by
  intro n
  induction n with
  | zero =>
    intro s hg hl hb ⟨gs, hgs, hgo⟩
    have hgl : g < s.gens.size := (Array.getElem?_eq_some_iff.mp hgs).1
    refine codeAny_builtin F.entry_any_loop ?_
    rw [Around.under_plainId F.plain_any_loop _]
    show wpAny _ A.in1 (pyNext (.ref a) >>= _) _ _ s
    refine wpAny_bind (wpAny_pyNext_genexpQ (A := A.in1) (P := fun n s₀ s1 => Fin s1) hh hl hd hg hgs (hgo _ ⟨rfl, rfl, allBare_setGen hb rfl⟩) (fun v s₁ gs' hbare hv => ?_) (fun s₁ hp h' hk => ?_))
    · obtain ⟨b, rfl, hb1, hl1, hg1, q1, q2⟩ := hv
      cases b with
      | false => exact (q2 (by rfl) s₁ ⟨rfl, rfl, hb1⟩).elim
      | true =>
        refine wpAny_bind (wpAny_holding (wpAny_truthy_bool ?_))
        refine wpAny_bind (wpAny_letGo ?_)
        exact wpAny_bind (wpAny_rule (wpAny_pure (hstp s₁ gs' hbare hb1 (q1 (by rfl)))))
    · exact wpAny_bind (wpAny_rule (wpAny_pure (hfin s₁ hp h' hk)))
  | succ n ih =>
    intro s hg hl hb ⟨gs, hgs, hgo⟩
    have hgl : g < s.gens.size := (Array.getElem?_eq_some_iff.mp hgs).1
    refine codeAny_builtin F.entry_any_loop ?_
    rw [Around.under_plainId F.plain_any_loop _]
    show wpAny _ A.in1 (pyNext (.ref a) >>= _) _ _ s
    refine wpAny_bind (wpAny_gsz (n := g + 1) hgl (wpAny_pyNext_genexpQ (A := A.in1) (P := fun n s₀ s1 => Fin s1) hh hl hd hg hgs (hgo _ ⟨rfl, rfl, allBare_setGen hb rfl⟩) (fun v s₁ gs' hbare hv => ?_) (fun s₁ hp h' hk => ?_)))
    · intro hsz
      obtain ⟨b, rfl, hb1, hl1, hg1, q1, q2⟩ := hv
      have hgl1 : g < s₁.gens.size := by
        have q : (s₁.setGen g gs').gens.size = s₁.gens.size := setGen_size s₁ g gs'
        omega
      cases b with
      | false =>
        refine wpAny_bind (wpAny_holding (wpAny_truthy_bool ?_))
        refine wpAny_bind (wpAny_letGo ?_)
        refine wpAny_pure ⟨plainId_quiet F.plain_any_loop _, ih (s₁.setGen g gs') hg1 hl1 (allBare_setGen hb1 hbare) ⟨gs', setGen_at hgl1, fun s' wk => q2 (by rfl) s' ⟨wk.heap, wk.os, wk.bare⟩⟩⟩
      | true =>
        refine wpAny_bind (wpAny_holding (wpAny_truthy_bool ?_))
        refine wpAny_bind (wpAny_letGo ?_)
        exact wpAny_bind (wpAny_rule (wpAny_pure (hstp s₁ gs' hbare hb1 (q1 (by rfl)))))
    · intro _
      exact wpAny_bind (wpAny_rule (wpAny_pure (hfin s₁ hp h' hk)))
end
end Sd
set_option Elab.async false
set_option linter.all false
set_option maxRecDepth 100000
set_option maxHeartbeats 4000000
set_option autoImplicit false
/-! Sd: any, all of generator expressions as wholes. -/
namespace Sd
open PySem PySem.Spec PyProof.Rows L2 GenW GxR

theorem Hold.restore' {c : Cn} {T : Fx} {O : Addr → Prop} {G G' H H' : Hp} {σ σ2 : St} {ρ1 ρ2 : Ev} {vs : List Nat} (h1 : Hold c T O G σ H ρ1) (h2 : Hold c T O G' σ2 H' ρ2) (hs : Same G G') (hv : ∀ i, i ∉ vs → σ2[i]? = σ[i]?) (hl : σ2.length = σ.length) : Hold c T O G' σ H' (restoreE ρ1 ρ2 vs) where
  sub := h2.sub
  ntb := h2.ntb
  oin := h2.oin
  tab := h2.tab
  lnt := h1.lnt
  len := by rw [restoreE_length, h2.len, hl]
  slot := fun i s hi => by
    rcases restoreE_some hi with ⟨hn, hi⟩ | ⟨hm, hi, d, rfl⟩
    · obtain ⟨v, e, q⟩ := h2.slot i s hi
      exact ⟨v, by rw [← hv i hn]; exact e, q⟩
    · obtain ⟨v, e, q⟩ := h1.slot i _ hi
      exact ⟨v, e, Rep.mono hs q⟩
  apart := fun i j o o' a hij hi hj ha => by
    rcases restoreE_some hi with ⟨hn, hi⟩ | ⟨_, _, d, hd⟩
    · rcases restoreE_some hj with ⟨hn', hj⟩ | ⟨_, _, d, hd⟩
      · have := h2.apart i j o o' a hij hi hj (by rw [hv i hn]; exact ha)
        rw [hv j hn'] at this
        exact this
      · cases hd
    · cases hd
theorem Hold.tbl {c : Cn} {T : Fx} {O : Addr → Prop} {G H : Hp} {σ : St} {ρ : Ev} {P : Addr} {ps ps' : Array Value} (h : Hold c T O G σ H ρ) (hP : H P = some (.tbl ps)) (hp : TriplesOk ps'.toList) :
    Hold c T O G σ (upd H P (.tbl ps')) ρ ∧ Tr O G H G (upd H P (.tbl ps')) := by
  refine ⟨⟨fun a o e => ?_, h.ntb, fun a ho e => ?_, fun p hpp => ?_, h.lnt, h.len, fun i sl hi => ?_, h.apart⟩, ⟨fun a o e => e, fun a o e _ ht => ?_, fun a o e => .inl e, fun a e => ?_, fun a qs e => ?_⟩⟩
  · rw [upd_ne (fun z => by rw [z] at e; rw [h.sub P o e] at hP; cases hP; exact h.ntb P ps e)]
    exact h.sub a o e
  · by_cases z : a = P
    · rw [z, upd_same] at e; cases e
    · rw [upd_ne z] at e; exact h.oin a ho e
  · by_cases z : p = P
    · exact ⟨ps', by rw [z]; exact upd_same, hp⟩
    · obtain ⟨qs, e, q⟩ := h.tab p hpp
      exact ⟨qs, by rw [upd_ne z]; exact e, q⟩
  · obtain ⟨v, e, q⟩ := h.slot i sl hi
    refine ⟨v, e, ?_⟩
    cases sl with
    | val d => exact q
    | own o =>
      obtain ⟨a, rfl, ho, hg, q⟩ := q
      obtain ⟨u, hu, ht, _⟩ := q.there
      exact ⟨a, rfl, ho, hg, q.mono (fun _ _ h => h) (upd_ne fun z => by rw [z, hP] at hu; cases hu; exact ht ps rfl)⟩
  · rw [upd_ne (fun z => by rw [z, hP] at e; cases e; exact ht ps rfl)]
    exact e
  · by_cases z : a = P
    · rw [z, upd_same] at e; cases e
    · rw [upd_ne z] at e; exact e
  · by_cases z : a = P
    · exact ⟨ps', by rw [z]; exact upd_same⟩
    · exact ⟨qs, by rw [upd_ne z]; exact e⟩

def sAny (isAll : Bool) (vs : List Nat) (dc : DCl) (dcs : List DCl) (elt : M Sl) : M Sl := fun ρ => (dc.it ρ).bind fun items ρ1 =>
  match anyItems dc.tg dc.cond (anyGo (!isAll) elt dcs) items (wipeE ρ1 vs) with
  | .ok st ρ2 => .ok (.val (.bool (if isAll = true then !st else st))) (restoreE ρ1 ρ2 vs)
  | _ => .bad
/-- the facts of a generator expression's block -/
structure GcOk (X : Cx) (T : Fx) (W : WX) (elt tg iter : Expr) (ifs : List Expr) (cls : List Comprehension) (scope : Scope) (own : List (Str × Nat)) (dc : DCl) (dcs : List DCl) (f : M Sl) : Prop where
  hc : X.calm = true
  hN : X.N.Nodup
  hr : ∃ k, Room k X.A
  hi : PI X tg iter (dI (cnOf X) T W dc.it)
  ok : GBlk X.N X.env.scope scope own
  hok : ∀ (s : Shared) (H : Hp) (cl : List (Str × Addr)) (C : Addr) (code : Value) (fp : List Addr) (pn : List (Addr × Obj)), ClOk (genX X X.A.in1.in1 s H (genEnv scope cl C code builtinsNs X.env) fp pn) T W0 ⟨tg, iter, ifs, 0⟩ dc
  hin : ∀ (s : Shared) (H : Hp) (cl : List (Str × Addr)) (C : Addr) (code : Value) (fp : List Addr) (pn : List (Addr × Obj)), ClIns (genX X X.A.in1.in1 s H (genEnv scope cl C code builtinsNs X.env) fp pn) T W0 cls dcs
  he : ∀ (s : Shared) (H : Hp) (cl : List (Str × Addr)) (C : Addr) (code : Value) (fp : List Addr) (pn : List (Addr × Obj)), PE (genX X X.A.in1.in1 s H (genEnv scope cl C code builtinsNs X.env) fp pn) elt (dT (cnOf X) T W0 f)
  hs : ∀ x, genFold iter X.env x = pure x
  nd : (dc.tg.slots ++ allSlots dcs).Nodup
  hsub : ∀ i ∈ dc.tg.slots ++ allSlots dcs, i ∈ own.map (fun x : Str × Nat => x.2)
  hL : ∀ p ∈ T.L, p.1 ∉ own.map (fun x : Str × Nat => x.2)
  tb : ∃ c P, TabB X.base X.mg c P ∧ X.env.code = .ref c ∧ P ∈ T.tabs

section
variable {X : Cx} {T : Fx} {W : WX} {elt tg iter : Expr} {ifs : List Expr} {cls : List Comprehension} {scope : Scope} {own : List (Str × Nat)} {dc : DCl} {dcs : List DCl} {f : M Sl} {gpos : Pos}
/-- the generator is made; then whatever runs it -/
theorem gen_core {pins : List (Addr × Obj)} {s : Shared} {σ : St} {H : Hp} {Q : VK} {stop : Bool} {fin : Bool → Bool} {Q' : Value → Shared → Prop} (K : GcOk X T W elt tg iter ifs cls scope own dc dcs f)
    (I : Inv X pins σ H s)
    (h : dT (cnOf X) T W (fun ρ => (dc.it ρ).bind fun items ρ1 =>
      match anyItems dc.tg dc.cond (anyGo stop f dcs) items (wipeE ρ1 (own.map (fun x : Str × Nat => x.2))) with
      | .ok st ρ2 => .ok (.val (.bool (fin st))) (restoreE ρ1 ρ2 (own.map (fun x : Str × Nat => x.2)))
      | _ => .bad) σ H Q)
    (run : ∀ (a : Addr) (g : Nat) (s5 : Shared) (Stp Fin : Shared → Prop), s5.heap.IsGen a g → s5.heap.NoLimit → AllBare s5.gens →
      (∃ n gs, s5.gens[g]? = some gs ∧ ∀ s', Woke s5 s' → gs.Goes (model X.prog X.w) X.A.in1.in1 (GR' Fin) (GY' stop a g Stp) n (.send .none) s') →
      (∀ s1, Fin s1 → ∀ h', (∀ b o, s1.heap.get? b = some o → h'.get? b = some o) → EP X pins σ Q (.bool (fin false)) { s1.setGen g .finished with heap := h' }) →
      (∀ (s1 : Shared) (gs' : GenState), gs'.bare = true → AllBare s1.gens → Stp s1 → EP X pins σ Q (.bool (fin true)) (s1.setGen g gs')) → Q' (.ref a) s5) :
    wpAny (model X.prog X.w) X.A (eval (.GeneratorExp elt (⟨tg, iter, ifs, 0⟩ :: cls) scope gpos) X.env) Q' X.xe s := by
  obtain ⟨O, G, ρ, hold, h⟩ := h
  dsimp only at h
  obtain ⟨kr, hr⟩ := K.hr
  obtain ⟨c, P, TB, hcode, hPT⟩ := K.tb
  have S := K.ok
  have hfree : ∀ y ∈ scope.names, y.2 = .free → ∃ c, X.env.cells.lookup y.1 = some c := fun y hy e => by
    rcases S.free y hy e with k | k
    · exact I.ok.has _ (.inl k)
    · exact I.ok.has _ (.inr k)
  rw [eval_GenN _ _ _ _ _ _ _ _ S.co, closure_ok hfree]
  cases q1 : dc.it ρ with
  | bad => rw [q1] at h; exact h.elim
  | exc x ρx =>
    rw [q1] at h
    refine wpAny_bind (thn (K.hi.run pins s σ H (fun _ _ => False) I ⟨O, G, ρ, hold, by rw [q1]; exact h⟩) fun xv s1 hx => ?_)
    refine wpAny_bind (wpAny_standAt (wpAny_bind (wpAny_of_eq (K.hs xv) (wpAny_bind (wpAny_holding (thn hx fun itv s2 h2 => ?_))))))
    obtain ⟨_, _, _, _, _, _, _, _, _, _, z⟩ := h2
    exact z.elim
  | ok items ρ1 =>
  rw [q1] at h
  simp only [Res.bind_ok] at h
  cases q2 : anyItems dc.tg dc.cond (anyGo stop f dcs) items (wipeE ρ1 (own.map (fun x : Str × Nat => x.2))) with
  | bad => rw [q2] at h; exact h.elim
  | exc x ρx => rw [q2] at h; exact h.elim
  | ok st ρ2 =>
  rw [q2] at h
  simp only at h
  refine wpAny_bind (thn (K.hi.run pins s σ H (fun J H1 => ∃ G1, Tr O G H G1 H1 ∧ Hold (cnOf X) T O G1 σ H1 ρ1 ∧ IterOk (cnOf X) J G1 items) I ⟨O, G, ρ, hold, by rw [q1]; exact fun J G1 H1 t1 h1 i1 => ⟨G1, t1, h1, i1⟩⟩) fun xv s1 hx => ?_)
  refine wpAny_bind (wpAny_standAt (wpAny_bind (wpAny_of_eq (K.hs xv) (wpAny_bind (wpAny_holding (thn hx fun itv s2 h2 => ?_))))))
  obtain ⟨it, fp, tn, J, H2, e2, I2, Tn, st2, f2, G1, tr1, hold1, io1⟩ := h2
  subst e2
  refine wpAny_bind (wpAny_enterFrame I2.nolimit hr.depth ?_)
  refine wpAny_bind (wpAny_pure ?_)
  obtain ⟨ps, hP, ht⟩ := hold1.tab P hPT
  have hPs : s2.heap.get? P = some { cls := .none, data := .fields ps } := I2.hok P _ hP
  have cd : PySem.W.CodeHd s2.heap c P := TB.code.keeps fun b u e => I2.bk b u e
  have hcP : cStatics ≠ P := fun e => by
    obtain ⟨_, hns, _⟩ := I2.nolimit
    obtain ⟨o', es, ep, ho, hd, _⟩ := hns
    rw [e, hPs] at ho
    cases ho
    cases hd
  -- behind the code's making
  have cont : ∀ (code : Value) (s4 : Shared) (H4 : Hp), Inv X pins σ H4 s4 → Hold (cnOf X) T O G1 σ H4 ρ1 → Tr O G1 H2 G1 H4 → (∀ b o, b ≠ P → s2.heap.get? b = some o → s4.heap.get? b = some o) → (∀ b, b ≠ P → H4 b = H2 b) →
      wpAny (model X.prog X.w) X.A (do
        let bi ← builtinsFor X.env.globals X.env.builtins
        let cenv ← newFunctionEnv scope X.env.globals (cloFrom X.env.cells scope.names []) [(".0", .ref it)] (X.env.qual ++ "<genexpr>.") none code none bi
        newGenerator (.compStart (.GeneratorExp elt (⟨tg, iter, ifs, 0⟩ :: cls) scope gpos) 0 (.ref it) .none cenv) "<genexpr>" (X.env.qual ++ "<genexpr>")) Q' X.xe s4 := by
    intro code s4 H4 I4 hold4 tr4 keep4 at4
    obtain ⟨bm, ob, e1, e2, e3, e4, e5, e6, e7, e8⟩ := TB.bm
    refine wpAny_bind (wpAny_builtinsFor (m := X.mg) (by rw [I4.ok.glob]; exact I4.mod.glob.keeps I4.bk) e1 e2 (I4.bk _ _ e5) e6 e7 e8 ?_)
    have hbinds : ∀ y ∈ ([((".0" : Str), Value.ref it)] : List (Str × Value)), scope.names.lookup y.1 = some NameKind.local := by
      intro y hy
      rcases List.mem_cons.mp hy with rfl | hy
      · exact S.dot
      · cases hy
    refine wpAny_bind (wpAny_newFunctionEnv S.cell hbinds (fun h' hn' hs' => ?_) S.kind)
    simp only [newGenerator, newFields]
    refine wpAny_bind (wpAny_newGen (wpAny_bind (wpAny_mkText (wpAny_bind (wpAny_mkText (wpAny_newObj_type ?_ (by size_fits)))))))
    have hsz : h'.objs.size = s4.heap.objs.size + 1 := by rw [hs'.1, Heap.size_push]
    have keep' : ∀ b o, s4.heap.get? b = some o → h'.get? b = some o := fun b o e => hs'.extBut b o (Nat.ne_of_lt (Heap.lt_size e)) (Heap.get?_push_of_some _ e)
    generalize hgo : ({ cls := .type "generator", data := .fields #[.int s4.gens.size 0, .str "<genexpr>" (s4.toks + 1), .str (X.env.qual ++ "<genexpr>") (s4.toks + 1 + 1)] } : Obj) = go
    have hgod : ∀ v, go.data ≠ .cell v := fun v z => by rw [← hgo] at z; cases z
    have hgen : ∀ h : Heap, h.get? h'.objs.size = some go → h.IsGen h'.objs.size s4.gens.size := fun h e => ⟨go, _, _, e, by rw [← hgo], by rw [← hgo], by rw [← hgo]⟩
    have hgop : (h'.push go).get? h'.objs.size = some go := Heap.get?_push_size _ (by rw [← hgo]; rfl)
    have keep5 : ∀ b o, s4.heap.get? b = some o → (h'.push go).get? b = some o := fun b o e => Heap.get?_push_of_some _ (keep' b o e)
    have hns5 : (h'.push go).Ns s4.heap.objs.size (fun x => ([((".0" : Str), Value.ref it)] : List (Str × Value)).reverse.lookup x) := hn'.push _
    have sz : ∀ b ∈ fp, b < s4.heap.objs.size := fun b hb => by
      obtain ⟨o, e, _⟩ := Tn.obj _ _ st2 b hb
      have hbP : b ≠ P := fun z => by
        have := (f2 b hb).1
        rw [z, hP] at this
        cases this
      exact Heap.lt_size (keep4 b o hbP e)
    have f4 : ∀ b ∈ fp, FpOk X pins H4 b ∧ b < s4.heap.objs.size := fun b hb => by
      have hbP : b ≠ P := fun z => by
        have := (f2 b hb).1
        rw [z, hP] at this
        cases this
      exact ⟨⟨by rw [at4 b hbP]; exact (f2 b hb).1, (f2 b hb).2⟩, sz b hb⟩
    have st5 : tn 0 (h'.push go) := Tn.keep _ _ _ st2 fun b hb o e => by
      have hbP : b ≠ P := fun z => by
        have := (f2 b hb).1
        rw [z, hP] at this
        cases this
      exact keep5 b o (keep4 b o hbP e)
    generalize hcenv : genEnv scope (cloFrom X.env.cells scope.names []) s4.heap.objs.size code builtinsNs X.env = cenv
    generalize hs5 : ({ s4 with gens := s4.gens.push (.fresh (.compStart (.GeneratorExp elt (⟨tg, iter, ifs, 0⟩ :: cls) scope gpos) 0 (.ref it) .none (newEnv scope s4.heap.objs.size X.env.globals (cloFrom X.env.cells scope.names []) (X.env.qual ++ "<genexpr>.") none code none builtinsNs))), heap := h'.push go, toks := s4.toks + 1 + 1 + 1 } : Shared) = s5
    have hne : newEnv scope s4.heap.objs.size X.env.globals (cloFrom X.env.cells scope.names []) (X.env.qual ++ "<genexpr>.") none code none builtinsNs = cenv := by rw [← hcenv]; rfl
    rw [hne] at hs5
    have h5h : s5.heap = h'.push go := by rw [← hs5]
    have h5g : s5.gens = s4.gens.push (.fresh (.compStart (.GeneratorExp elt (⟨tg, iter, ifs, 0⟩ :: cls) scope gpos) 0 (.ref it) .none cenv)) := by rw [← hs5]
    have h5o : s5.os = s4.os := by rw [← hs5]
    have b5 : AllBare s5.gens := by rw [h5g]; exact I4.bare.push rfl
    have goal : Q' (.ref h'.objs.size) s5 := by
      have okc := K.hok s4 H4 (cloFrom X.env.cells scope.names []) s4.heap.objs.size code fp [(h'.objs.size, go)]
      have inc := K.hin s4 H4 (cloFrom X.env.cells scope.names []) s4.heap.objs.size code fp [(h'.objs.size, go)]
      have hec := K.he s4 H4 (cloFrom X.env.cells scope.names []) s4.heap.objs.size code fp [(h'.objs.size, go)]
      rw [hcenv] at okc inc hec
      -- the block's start, whenever it is woken
      have begin_ : ∀ s', Woke s5 s' → Inv (genX X X.A.in1.in1 s4 H4 cenv fp [(h'.objs.size, go)]) [] (wipe σ (own.map (fun x : Str × Nat => x.2))) H4 s' := fun s' wk => by
        rw [← hcenv]
        refine gen_start I4 hr.hd (show X.A.in1.in1.frames = some X.stack from I4.ok.frames) S K.hN f4 (by rw [wk.heap, h5h]; exact hns5) (fun b o e => by rw [wk.heap, h5h]; exact keep5 b o e) (wk.os.trans h5o) wk.bare fun p hp => ?_
        rw [List.mem_singleton.mp hp]
        exact ⟨by rw [wk.heap, h5h]; exact hgop, by rw [hsz]; exact Nat.lt_succ_self _, hgod⟩
      have hXenv : (genX X X.A.in1.in1 s4 H4 cenv fp [(h'.objs.size, go)]).env = cenv := rfl
      obtain ⟨N, hN⟩ := segG_items (X := genX X X.A.in1.in1 s4 H4 cenv fp [(h'.objs.size, go)]) (T := T) (stop := stop) (gens := ⟨tg, iter, ifs, 0⟩ :: cls) (scope := scope) (pos := gpos) K.hc (fun _ _ z => z) (by show cenv.scope.isCoroutine = false; rw [← hcenv]; exact S.co) hec cls dcs ⟨tg, iter, ifs, 0⟩ dc 0 (fun j => by rw [Nat.zero_add])
        okc inc K.nd items.length items 0 (wipeE ρ1 (own.map (fun x : Str × Nat => x.2))) st ρ2 (Nat.sub_zero _) (Nat.zero_le _) (by simpa using q2)
      have hold4w : Hold (cnOf X) T O G1 (wipe σ (own.map (fun x : Str × Nat => x.2))) H4 (wipeE ρ1 (own.map (fun x : Str × Nat => x.2))) := hold4.wipeS _ K.hL
      -- back in the def
      have back : ∀ (pins'' : List (Addr × Obj)) (σ'' : St) (H'' G'' : Hp) (s1 s2' : Shared) (b : Bool), b = st → Inv (genX X X.A.in1.in1 s4 H4 cenv fp [(h'.objs.size, go)]) pins'' σ'' H'' s1 → Hold (cnOf X) T O G'' σ'' H'' ρ2 → Tr O G1 H4 G'' H'' → (∀ j : Nat, j ∉ own.map (fun x : Str × Nat => x.2) → σ''[j]? = σ[j]?) → σ''.length = σ.length →
          (∀ b o, s1.heap.get? b = some o → s2'.heap.get? b = some o) → s2'.os = s1.os → AllBare s2'.gens → EP X pins σ Q (.bool (fin b)) s2' := by
        intro pins'' σ'' H'' G'' s1 s2' b hb I6 hold6 tr6 hσ6 hl6 hk6 ho6 hb6
        subst hb
        have un6 : Un (frs X.stack) fp H4 H'' s4.heap s1.heap := I6.base
        have I7 : Inv X pins σ H'' s2' := I4.call' (ch := fp) (ho6.trans I6.os) (un6.trans (Un.kept hk6)) (I6.hok.kept hk6) hb6 fun b hb => ⟨(f4 b hb).1.2.2.2.1, (f4 b hb).1.2.1, (f4 b hb).1.2.2.2.2.1, (f4 b hb).1.2.2.2.2.2⟩
        exact ⟨.bl (fin b), H'', I7, rfl, h (.bl (fin b)) G'' H'' ((tr1.trans' tr4).trans' tr6) (hold4.restore' hold6 tr6.g hσ6 hl6) (.bl _)⟩
      refine run h'.objs.size s4.gens.size s5 (fun s1 => st = true ∧ ∃ pins'' σ'' H'' G'', Inv (genX X X.A.in1.in1 s4 H4 cenv fp [(h'.objs.size, go)]) pins'' σ'' H'' s1 ∧ Hold (cnOf X) T O G'' σ'' H'' ρ2 ∧ Tr O G1 H4 G'' H'' ∧ (∀ j : Nat, j ∉ own.map (fun x : Str × Nat => x.2) → σ''[j]? = σ[j]?) ∧ σ''.length = σ.length)
        (fun s1 => st = false ∧ GAt (genX X X.A.in1.in1 s4 H4 cenv fp [(h'.objs.size, go)]) T [] O G1 H4 (wipe σ (own.map (fun x : Str × Nat => x.2))) ρ2 s1)
        (hgen _ (by rw [h5h]; exact hgop)) ((begin_ s5 ⟨rfl, rfl, b5⟩).nolimit) b5 ⟨N, _, by rw [h5g]; exact Array.getElem?_push_size .., fun s' wk => ?_⟩ (fun s1 hf h'' hk => ?_) (fun s1 gs' hgb hb1 hs1 => ?_)
      · -- the generator runs
        refine ⟨rfl, ?_⟩
        have I6 := begin_ s' wk
        have st6 : tn 0 s'.heap := by rw [wk.heap, h5h]; exact st5
        have stat : ∀ b ∈ fp, FpOk (genX X X.A.in1.in1 s4 H4 cenv fp [(h'.objs.size, go)]) [] H4 b := fun b hb =>
          ⟨(f4 b hb).1.1, (I6.ok.exf b hb).1, I6.ok.exfs b hb, .inl hb, fun x c e => (I6.ok.exf b hb).2 x c e, fun p hp => by
            have hp : p ∈ [(h'.objs.size, go)] ++ [] := hp
            rw [List.append_nil] at hp
            rw [List.mem_singleton.mp hp]
            have := (f4 b hb).2
            show h'.objs.size ≠ b
            rw [hsz]
            exact Nat.ne_of_gt (Nat.lt_succ_of_lt this)⟩
        have loop := hN 0 N s' [] X.A.in1.in1 (GR' fun s1 => st = false ∧ GAt (genX X X.A.in1.in1 s4 H4 cenv fp [(h'.objs.size, go)]) T [] O G1 H4 (wipe σ (own.map (fun x : Str × Nat => x.2))) ρ2 s1)
          (GY' stop h'.objs.size s4.gens.size fun s1 => st = true ∧ ∃ pins'' σ'' H'' G'', Inv (genX X X.A.in1.in1 s4 H4 cenv fp [(h'.objs.size, go)]) pins'' σ'' H'' s1 ∧ Hold (cnOf X) T O G'' σ'' H'' ρ2 ∧ Tr O G1 H4 G'' H'' ∧ (∀ j : Nat, j ∉ own.map (fun x : Str × Nat => x.2) → σ''[j]? = σ[j]?) ∧ σ''.length = σ.length)
          [] s' (wipe σ (own.map (fun x : Str × Nat => x.2))) H4 O G1 it fp tn J (Nat.le_refl _) over_gen rfl rfl I6 hold4w Tn st6 stat io1 (fun i hi v e => (wipe_some e).2 (K.hsub i hi))
          (fun m s₀ s6 kap pins6 σ6 H6 b I7 hb hk => ⟨b, rfl, I7.bare, I7.nolimit, hgen _ (I7.pin (h'.objs.size, go) (List.mem_append_left _ (List.mem_singleton.mpr rfl))).1, fun z => by rw [hb] at z; exact absurd z Bool.false_ne_true, fun _ s'' w => hk s'' w⟩)
          (fun e n' s₀' s6 _ ga => seg_end (.ok .next) ⟨rfl, e, ga⟩)
          (fun e m s₀' s6 kap pins6 σ6 H6 G6 bb hbb I7 hold7 tr7 h1 h2 => ⟨bb, rfl, I7.bare, I7.nolimit, hgen _ (I7.pin (h'.objs.size, go) (List.mem_append_left _ (List.mem_singleton.mpr rfl))).1,
            fun _ => ⟨e, pins6, σ6, H6, G6, I7, hold7, tr7, fun j hj => (h1 j fun z => hj (K.hsub j z)).trans (wipe_out hj), h2.trans (wipe_length _ _)⟩, fun z => by rw [hbb] at z; exact absurd z.symm Bool.false_ne_true⟩)
        exact segG_start (k := 0) (t := tg) (i := iter) (ifs := ifs) rfl loop (by
          rw [over_genS]
          exact Tn.self _ _ _ _ _ st6 loop)
      · obtain ⟨e, H6, G6, I6, hold6, tr6⟩ := hf
        exact back [] _ H6 G6 s1 _ false e.symm I6 hold6 tr6 (fun j hj => wipe_out hj) (wipe_length _ _) hk rfl (allBare_setGen I6.bare rfl)
      · obtain ⟨e, pins6, σ6, H6, G6, I6, hold6, tr6, hs6, hl6⟩ := hs1
        exact back pins6 σ6 H6 G6 s1 _ true e.symm I6 hold6 tr6 hs6 hl6 (fun _ _ z => z) rfl (allBare_setGen hb1 hgb)
    subst hs5; subst hcenv; subst hgo
    exact goal
  cases hf : codeAmong gpos ps.toList with
  | none =>
    refine wpAny_bind (wpAny_genexprCodeX hcode (cd.code hPs ht) (cd.tab hPs) hf fun c' h3 tk hx hge hlt hco' _ htab' _ => ?_)
    obtain ⟨o1, vs, f1, tf, fl, tg', inF, tx, tt, op, _, _, _, _, _, _, _, _, _, htr, _⟩ := hco'
    obtain ⟨hold4, tr4⟩ := hold1.tbl hP htr
    refine cont (.ref c') { s2 with heap := h3, toks := tk } _ (inv_tab (more := #[rawInt gpos.line, rawInt gpos.col, .ref c']) (g' := s2.gens) (d' := s2.drawn) I2 hP hx htab'.2 I2.bare) hold4 tr4 hx fun b hb => upd_ne hb
  | some cv =>
    refine wpAny_bind (wpAny_genexprCode_hit hcode (cd.code hPs ht) hf ?_)
    exact cont cv s2 H2 I2 hold1 .refl (fun _ _ _ e => e) fun _ _ => rfl
theorem pe_allN {p pos : Pos} (K : GcOk X T W elt tg iter ifs cls scope own dc dcs f) (hg : Gl X "all") (hm : X.mg "all" = none) :
    PE X (.Call (.Name "all" p) [.GeneratorExp elt (⟨tg, iter, ifs, 0⟩ :: cls) scope gpos] [] pos) (dT (cnOf X) T W (sAny true (own.map (fun x : Str × Nat => x.2)) dc dcs f)) := by
  refine ⟨fun pins s σ H Q I h => ?_⟩
  obtain ⟨kr, hr⟩ := K.hr
  have he : starEach [.GeneratorExp elt (⟨tg, iter, ifs, 0⟩ :: cls) scope gpos] X.env = (false, eval (.GeneratorExp elt (⟨tg, iter, ifs, 0⟩ :: cls) scope gpos) X.env) :: starEach [] X.env := rfl
  refine wpAny_Call_Name_kw (ld_blt I hg hm (show bootBuiltins "all" = some (.builtin "all") by decide +kernel) ?_)
  refine PyProof.Rows.callWith_builtin1 ?_ he (by rfl)
  rw [he]
  show wpAny _ _ (spliced ((false, eval (.GeneratorExp elt (⟨tg, iter, ifs, 0⟩ :: cls) scope gpos) X.env) :: backTo pos (starEach [] X.env))) _ _ s
  refine Calls.spliced_cons (gen_core (stop := false) (fin := fun st => !st) K I h fun a g s5 Stp Fin hg5 hl5 hb5 hgo hfin hstp => ?_)
  obtain ⟨n, hgo⟩ := hgo
  refine Calls.spliced_nil ?_
  refine call_function_tree F.kind_all F.plain_all F.entry_all (F.args_all1 _) ?_
  unfold Builtin.«all»
  refine wpAny_bind (m := oneArg "all" _) (wpAny_pure ?_)
  refine wpAny_bind (wpAny_pyIter_gen hg5 ?_)
  exact wpAny_pure ⟨plainId_quiet F.plain_all_loop _, consume_all (A := X.A) hr.hd hr.depth (fun s1 hf h' hk => hfin s1 hf h' hk) (fun s1 gs' h1 h2 h3 => hstp s1 gs' h1 h2 h3) n s5 hg5 hl5 hb5 hgo⟩
theorem pe_anyN {p pos : Pos} (K : GcOk X T W elt tg iter ifs cls scope own dc dcs f) (hg : Gl X "any") (hm : X.mg "any" = none) :
    PE X (.Call (.Name "any" p) [.GeneratorExp elt (⟨tg, iter, ifs, 0⟩ :: cls) scope gpos] [] pos) (dT (cnOf X) T W (sAny false (own.map (fun x : Str × Nat => x.2)) dc dcs f)) := by
  refine ⟨fun pins s σ H Q I h => ?_⟩
  obtain ⟨kr, hr⟩ := K.hr
  have he : starEach [.GeneratorExp elt (⟨tg, iter, ifs, 0⟩ :: cls) scope gpos] X.env = (false, eval (.GeneratorExp elt (⟨tg, iter, ifs, 0⟩ :: cls) scope gpos) X.env) :: starEach [] X.env := rfl
  refine wpAny_Call_Name_kw (ld_blt I hg hm (show bootBuiltins "any" = some (.builtin "any") by decide +kernel) ?_)
  refine PyProof.Rows.callWith_builtin1 ?_ he (by rfl)
  rw [he]
  show wpAny _ _ (spliced ((false, eval (.GeneratorExp elt (⟨tg, iter, ifs, 0⟩ :: cls) scope gpos) X.env) :: backTo pos (starEach [] X.env))) _ _ s
  refine Calls.spliced_cons (gen_core (stop := true) (fin := fun st => st) K I h fun a g s5 Stp Fin hg5 hl5 hb5 hgo hfin hstp => ?_)
  obtain ⟨n, hgo⟩ := hgo
  refine Calls.spliced_nil ?_
  refine call_function_tree F.kind_any F.plain_any F.entry_any (F.args_any1 _) ?_
  unfold Builtin.«any»
  refine wpAny_bind (m := oneArg "any" _) (wpAny_pure ?_)
  refine wpAny_bind (wpAny_pyIter_gen hg5 ?_)
  exact wpAny_pure ⟨plainId_quiet F.plain_any_loop _, consume_any (A := X.A) hr.hd hr.depth (fun s1 hf h' hk => hfin s1 hf h' hk) (fun s1 gs' h1 h2 h3 => hstp s1 gs' h1 h2 h3) n s5 hg5 hl5 hb5 hgo⟩
end
end Sd
set_option Elab.async false
set_option linter.all false
set_option maxRecDepth 100000
set_option maxHeartbeats 4000000
set_option autoImplicit false
/-! Sd: expressions by parts. -/
namespace Sd
open PySem PySem.Spec PyProof.Rows L2

section
variable (c : Cn) (T : Fx) (W : WX) (O : Addr → Prop) (G : Hp) (σ : St) (H : Hp)
def Wt (x : Res Sl) (Q : VK) : Prop := match x with
  | .ok r ρ' => ∀ v G' H', Tr O G H G' H' → Hold c T O G' σ H' ρ' → RepR c H G' H' v r → Q v H'
  | .exc e ρ' => ∀ G' H', Tr O G H G' H' → Hold c T O G' σ H' ρ' → W e σ H'
  | .bad => False
def WtB (x : Res Bool) (Q : Bool → Hp → Prop) : Prop := match x with
  | .ok r ρ' => ∀ G' H', Tr O G H G' H' → Hold c T O G' σ H' ρ' → Q r H'
  | .exc e ρ' => ∀ G' H', Tr O G H G' H' → Hold c T O G' σ H' ρ' → W e σ H'
  | .bad => False
def WtA (x : Res (List D)) (Q : List V → Hp → Prop) : Prop := match x with
  | .ok ds ρ' => ∀ vs G' H', Tr O G H G' H' → Hold c T O G' σ H' ρ' → Reps c G' vs ds → Q vs H'
  | .exc e ρ' => ∀ G' H', Tr O G H G' H' → Hold c T O G' σ H' ρ' → W e σ H'
  | .bad => False
def WtI (x : Res (List D)) (R : It → Hp → Prop) : Prop := match x with
  | .ok items ρ' => ∀ J G' H', Tr O G H G' H' → Hold c T O G' σ H' ρ' → IterOk c J G' items → R J H'
  | .exc e ρ' => ∀ G' H', Tr O G H G' H' → Hold c T O G' σ H' ρ' → W e σ H'
  | .bad => False
end
theorem RepR.back {c : Cn} {H0 H1 G H : Hp} {v : V} {r : Sl} (h : RepR c H1 G H v r) (d : ∀ a, H1 a = none → H0 a = none) : RepR c H0 G H v r := by
  cases r with
  | val d => exact h
  | own o => obtain ⟨a, rfl, h1, h2⟩ := h; exact ⟨a, rfl, d a h1, h2⟩
section
variable {c : Cn} {T : Fx} {W : WX} {O : Addr → Prop} {G H G1 H1 : Hp} {σ : St} {ρ : Ev}
theorem Wt.later {x : Res Sl} {Q : VK} (t : Tr O G H G1 H1) (h : Wt c T W O G σ H x Q) : Wt c T W O G1 σ H1 x Q := by
  cases x with
  | ok r ρ' => exact fun v G' H' t' hd rr => h v G' H' (t.trans' t') hd (rr.back t.d)
  | exc e ρ' => exact fun G' H' t' hd => h G' H' (t.trans' t') hd
  | bad => exact h
theorem WtB.later {x : Res Bool} {Q : Bool → Hp → Prop} (t : Tr O G H G1 H1) (h : WtB c T W O G σ H x Q) : WtB c T W O G1 σ H1 x Q := by
  cases x with
  | ok r ρ' => exact fun G' H' t' hd => h G' H' (t.trans' t') hd
  | exc e ρ' => exact fun G' H' t' hd => h G' H' (t.trans' t') hd
  | bad => exact h
theorem WtA.later {x : Res (List D)} {Q : List V → Hp → Prop} (t : Tr O G H G1 H1) (h : WtA c T W O G σ H x Q) : WtA c T W O G1 σ H1 x Q := by
  cases x with
  | ok r ρ' => exact fun vs G' H' t' hd rr => h vs G' H' (t.trans' t') hd rr
  | exc e ρ' => exact fun G' H' t' hd => h G' H' (t.trans' t') hd
  | bad => exact h
theorem WtI.later {x : Res (List D)} {Q : It → Hp → Prop} (t : Tr O G H G1 H1) (h : WtI c T W O G σ H x Q) : WtI c T W O G1 σ H1 x Q := by
  cases x with
  | ok r ρ' => exact fun J G' H' t' hd rr => h J G' H' (t.trans' t') hd rr
  | exc e ρ' => exact fun G' H' t' hd => h G' H' (t.trans' t') hd
  | bad => exact h
end

/-! ### semantics -/
def sVar (i : Nat) : M Sl := fun ρ => match ρ[i]? with
  | some (some (.val d)) => .ok (.val d) ρ
  | some (some (.own o)) => .ok (.val o.frz) (ρ.set i (some (.val o.frz)))
  | _ => .bad
def sC (d : D) : M Sl := fun ρ => .ok (.val d) ρ
def sIf (b : M Bool) (f g : M Sl) : M Sl := fun ρ => (b ρ).bind fun x ρ' => if x = true then f ρ' else g ρ'
/-- values of bools: and, or, not -/
def boolD : Sl → Option Bool
  | .val (.bool b) => some b
  | _ => none
def sAnd (f g : M Sl) : M Sl := fun ρ => (f ρ).bind fun r ρ' => match boolD r with
  | some b => if b = true then g ρ' else .ok (.val (.bool false)) ρ'
  | none => .bad
def sOr (f g : M Sl) : M Sl := fun ρ => (f ρ).bind fun r ρ' => match boolD r with
  | some b => if b = true then .ok (.val (.bool true)) ρ' else g ρ'
  | none => .bad
def sNot (f : M Sl) : M Sl := fun ρ => (f ρ).bind fun r ρ' => match boolD r with
  | some b => .ok (.val (.bool (!b))) ρ'
  | none => .bad
def bAnd (f g : M Bool) : M Bool := fun ρ => (f ρ).bind fun x ρ' => if x = true then g ρ' else .ok false ρ'
def bOr (f g : M Bool) : M Bool := fun ρ => (f ρ).bind fun x ρ' => if x = true then .ok true ρ' else g ρ'
def bNot (f : M Bool) : M Bool := fun ρ => (f ρ).bind fun x ρ' => .ok (!x) ρ'
/-- the test of a value -/
def truD : D → Option Bool
  | .none => some false
  | .bool b => some b
  | .int i => some (i != 0)
  | .str x => if x.length ≤ sizeLine then some ((x.length : Int) != 0) else none
  | .list xs => some !xs.isEmpty
  | .tuple xs => some !xs.isEmpty
  | _ => none
def bTru (A : Opd) : M Bool := bN (fun | [d] => truD d | _ => none) [A]
def bVal (f : M Sl) : M Bool := fun ρ => (f ρ).bind fun r ρ' => match boolD r with
  | some b => .ok b ρ'
  | none => .bad
def aN : M (List D) := fun ρ => .ok [] ρ
def aC (f : M Sl) (as : M (List D)) : M (List D) := fun ρ => (f ρ).bind fun r ρ1 => (as ρ1).bind fun ds ρ2 => .ok (r.frz :: ds) ρ2
def seqD : D → Option (List D)
  | .list xs => some xs
  | .tuple xs => some xs
  | _ => none
def aS (f : M Sl) (as : M (List D)) : M (List D) := fun ρ => (f ρ).bind fun r ρ1 => match seqD r.frz with
  | some xs => (as ρ1).bind fun ds ρ2 => .ok (xs ++ ds) ρ2
  | none => .bad
def sTup (as : M (List D)) : M Sl := fun ρ => (as ρ).bind fun ds ρ' => if ds.length ≤ sizeLine then .ok (.val (.tuple ds)) ρ' else .bad
def sLst (as : M (List D)) : M Sl := fun ρ => (as ρ).bind fun ds ρ' => if ds.length ≤ sizeLine then .ok (.own (.lst ds)) ρ' else .bad

section
variable {X : Cx} {T : Fx} {W : WX} {e a b : Expr} {es rest : List Expr} {pos : Pos} {f g : M Sl} {t u : M Bool} {as : M (List D)} {i : Nat}
theorem pe_varD (h : PE X e (tVar i)) : PE X e (dT (cnOf X) T W (sVar i)) := impPE h fun σ H Q h => by
  obtain ⟨O, G, ρ, hold, h⟩ := h
  unfold sVar at h
  cases q : ρ[i]? with
  | none => rw [q] at h; exact h.elim
  | some o =>
  cases o with
  | none => rw [q] at h; exact h.elim
  | some s =>
  rw [q] at h
  cases s with
  | val d =>
    obtain ⟨v, e1, r⟩ := hold.at_val q
    exact ⟨v, e1, h v G H .refl hold r⟩
  | own o =>
    obtain ⟨p, G', e1, tr, hold', r⟩ := hold.freezeS q
    exact ⟨_, e1, h (.ref p) G' H tr hold' r⟩
theorem pe_cD {v : V} {d : D} (h : PE X e (tC v)) (r : ∀ G, Rep (cnOf X) G v d) : PE X e (dT (cnOf X) T W (sC d)) := impPE h fun σ H Q h => by
  obtain ⟨O, G, ρ, hold, h⟩ := h
  exact h v G H .refl hold (r G)
theorem pe_ifD (hc : PT X e (dB (cnOf X) T W t)) (ha : PE X a (dT (cnOf X) T W f)) (hb : PE X b (dT (cnOf X) T W g)) : PE X (.IfExp e a b pos) (dT (cnOf X) T W (sIf t f g)) :=
  impPE (pe_ifExp hc ha hb) fun σ H Q h => by
    obtain ⟨O, G, ρ, hold, h⟩ := h
    refine ⟨O, G, ρ, hold, ?_⟩
    unfold sIf at h
    cases q : t ρ with
    | bad => rw [q] at h; exact h
    | exc x ρ' => rw [q] at h; exact h
    | ok x ρ' =>
      rw [q] at h
      intro G1 H1 t1 hold1
      have h' := Wt.later t1 h
      cases x with
      | true => exact ⟨O, G1, ρ', hold1, h'⟩
      | false => exact ⟨O, G1, ρ', hold1, h'⟩
theorem Rep.bool_inv {c : Cn} {G : Hp} {v : V} {b : Bool} (h : Rep c G v (.bool b)) : v = .bl b := by cases h; rfl
theorem boolD_some {r : Sl} {b : Bool} (h : boolD r = some b) : r = .val (.bool b) := by
  unfold boolD at h
  split at h
  · cases h; rfl
  · cases h
theorem pe_andD (ha : PE X a (dT (cnOf X) T W f)) (hb : PE X (.BoolOp .And (b :: rest) pos) (dT (cnOf X) T W g)) : PE X (.BoolOp .And (a :: b :: rest) pos) (dT (cnOf X) T W (sAnd f g)) :=
  impPE (pe_and ha hb) fun σ H Q h => by
    obtain ⟨O, G, ρ, hold, h⟩ := h
    refine ⟨O, G, ρ, hold, ?_⟩
    unfold sAnd at h
    cases q : f ρ with
    | bad => rw [q] at h; exact h
    | exc x ρ' => rw [q] at h; exact h
    | ok r ρ' =>
      rw [q] at h
      dsimp only [Res.bind] at h
      cases q2 : boolD r with
      | none => rw [q2] at h; exact h.elim
      | some x =>
      rw [q2] at h
      intro v G1 H1 t1 hold1 rr
      have h' := Wt.later t1 h
      rw [boolD_some q2] at rr
      cases x with
      | true => exact ⟨true, rr.bool_inv, O, G1, ρ', hold1, h'⟩
      | false => exact ⟨false, rr.bool_inv, h' _ G1 H1 .refl hold1 (.bl false)⟩
theorem pe_orD (ha : PE X a (dT (cnOf X) T W f)) (hb : PE X (.BoolOp .Or (b :: rest) pos) (dT (cnOf X) T W g)) : PE X (.BoolOp .Or (a :: b :: rest) pos) (dT (cnOf X) T W (sOr f g)) :=
  impPE (pe_or ha hb) fun σ H Q h => by
    obtain ⟨O, G, ρ, hold, h⟩ := h
    refine ⟨O, G, ρ, hold, ?_⟩
    unfold sOr at h
    cases q : f ρ with
    | bad => rw [q] at h; exact h
    | exc x ρ' => rw [q] at h; exact h
    | ok r ρ' =>
      rw [q] at h
      dsimp only [Res.bind] at h
      cases q2 : boolD r with
      | none => rw [q2] at h; exact h.elim
      | some x =>
      rw [q2] at h
      intro v G1 H1 t1 hold1 rr
      have h' := Wt.later t1 h
      rw [boolD_some q2] at rr
      cases x with
      | true => exact ⟨true, rr.bool_inv, h' _ G1 H1 .refl hold1 (.bl true)⟩
      | false => exact ⟨false, rr.bool_inv, O, G1, ρ', hold1, h'⟩
theorem pe_notD (ha : PE X a (dT (cnOf X) T W f)) : PE X (.UnaryOp .Not a pos) (dT (cnOf X) T W (sNot f)) :=
  impPE (pe_not ha) fun σ H Q h => by
    obtain ⟨O, G, ρ, hold, h⟩ := h
    refine ⟨O, G, ρ, hold, ?_⟩
    unfold sNot at h
    cases q : f ρ with
    | bad => rw [q] at h; exact h
    | exc x ρ' => rw [q] at h; exact h
    | ok r ρ' =>
      rw [q] at h
      dsimp only [Res.bind] at h
      cases q2 : boolD r with
      | none => rw [q2] at h; exact h.elim
      | some x =>
      rw [q2] at h
      intro v G1 H1 t1 hold1 rr
      rw [boolD_some q2] at rr
      exact ⟨x, rr.bool_inv, h _ G1 H1 t1 hold1 (.bl _)⟩
/-! tests -/
theorem pw_and1D (ha : PT X a (dB (cnOf X) T W t)) : PW X (.BoolOp .And [a] pos) (dB (cnOf X) T W t) := pw_and1 ha
theorem pw_or1D (ha : PT X a (dB (cnOf X) T W t)) : PW X (.BoolOp .Or [a] pos) (dB (cnOf X) T W t) := pw_or1 ha
theorem pw_andD (ha : PT X a (dB (cnOf X) T W t)) (hb : PW X (.BoolOp .And (b :: rest) pos) (dB (cnOf X) T W u)) : PW X (.BoolOp .And (a :: b :: rest) pos) (dB (cnOf X) T W (bAnd t u)) :=
  impPW (pw_and ha hb) fun σ H Q h => by
    obtain ⟨O, G, ρ, hold, h⟩ := h
    refine ⟨O, G, ρ, hold, ?_⟩
    unfold bAnd at h
    cases q : t ρ with
    | bad => rw [q] at h; exact h
    | exc x ρ' => rw [q] at h; exact h
    | ok x ρ' =>
      rw [q] at h
      intro G1 H1 t1 hold1
      have h' := WtB.later t1 h
      cases x with
      | true => exact ⟨O, G1, ρ', hold1, h'⟩
      | false => exact h' G1 H1 .refl hold1
theorem pw_orD (ha : PT X a (dB (cnOf X) T W t)) (hb : PW X (.BoolOp .Or (b :: rest) pos) (dB (cnOf X) T W u)) : PW X (.BoolOp .Or (a :: b :: rest) pos) (dB (cnOf X) T W (bOr t u)) :=
  impPW (pw_or ha hb) fun σ H Q h => by
    obtain ⟨O, G, ρ, hold, h⟩ := h
    refine ⟨O, G, ρ, hold, ?_⟩
    unfold bOr at h
    cases q : t ρ with
    | bad => rw [q] at h; exact h
    | exc x ρ' => rw [q] at h; exact h
    | ok x ρ' =>
      rw [q] at h
      intro G1 H1 t1 hold1
      have h' := WtB.later t1 h
      cases x with
      | true => exact h' G1 H1 .refl hold1
      | false => exact ⟨O, G1, ρ', hold1, h'⟩
theorem pt_notD (ha : PT X a (dB (cnOf X) T W t)) : PT X (.UnaryOp .Not a pos) (dB (cnOf X) T W (bNot t)) :=
  impPT (pt_not ha) fun σ H Q h => by
    obtain ⟨O, G, ρ, hold, h⟩ := h
    refine ⟨O, G, ρ, hold, ?_⟩
    unfold bNot at h
    cases q : t ρ with
    | bad => rw [q] at h; exact h
    | exc x ρ' => rw [q] at h; exact h
    | ok x ρ' =>
      rw [q] at h
      exact fun G1 H1 t1 hold1 => h G1 H1 t1 hold1
/-- an expression whose value is a bool, as a test -/
theorem imp_val {σ : St} {H : Hp} {Q : Bool → Hp → Prop} (h : dB (cnOf X) T W (bVal f) σ H Q) : dT (cnOf X) T W f σ H fun x H1 => ∃ c, x = .bl c ∧ Q c H1 := by
  obtain ⟨O, G, ρ, hold, h⟩ := h
  refine ⟨O, G, ρ, hold, ?_⟩
  unfold bVal at h
  cases q : f ρ with
  | bad => rw [q] at h; exact h
  | exc x ρ' => rw [q] at h; exact h
  | ok r ρ' =>
    rw [q] at h
    dsimp only [Res.bind] at h
    cases q2 : boolD r with
    | none => rw [q2] at h; exact h.elim
    | some x =>
    rw [q2] at h
    intro v G1 H1 t1 hold1 rr
    rw [boolD_some q2] at rr
    exact ⟨x, rr.bool_inv, h G1 H1 t1 hold1⟩
theorem pt_valD (h : PE X e (dT (cnOf X) T W f)) (he : ∀ whole, isTrue e X.env whole = (do let v ← whole; standAt e.pos; holding [v] (truthy v)) := by intro _; rfl) : PT X e (dB (cnOf X) T W (bVal f)) :=
  impPT (pt_val h he) fun _ _ _ h => imp_val h
theorem opd1B {c : Cn} {σ : St} {H : Hp} {A : Opd} {p : D → Option Bool} {Q : Bool → Hp → Prop} {R : V → Hp → Prop} (h : dB c T W (bN (fun | [d] => p d | _ => none) [A]) σ H Q)
    (k : ∀ G1 H1 v d r, Vw c G1 H1 v d → p d = some r → (∀ a o, G1 a = some o → H1 a = some o) → Q r H1 → R v H1) :
    tO c T W A σ H fun v H1 => R v H1 := by
  obtain ⟨O, G, ρ, hold, h⟩ := h
  unfold bN ph1s at h
  refine opd_step hold ?_
  cases e1 : A.ph1 ρ with
  | bad => rw [e1] at h; exact h
  | exc x ρ' => rw [e1] at h; exact h
  | ok x ρ1 =>
    rw [e1] at h
    intro v G1 H1 tr1 hold1 ov1
    unfold ph1s at h
    simp only [Res.bind_ok, ph2s] at h
    cases q1 : A.ph2 x ρ1 with
    | none => rw [q1] at h; exact h.elim
    | some d =>
      rw [q1] at h
      simp only [Option.bind_some, Option.map_some] at h
      cases q3 : p d with
      | none => rw [q3] at h; exact h.elim
      | some r =>
        rw [q3] at h
        exact k G1 H1 v d r (ov1.view hold1 q1) q3 hold1.sub (h G1 H1 tr1 hold1)
theorem pt_truD {A : Opd} (ha : PO' X T W e A) (he : ∀ whole, isTrue e X.env whole = (do let v ← whole; standAt e.pos; holding [v] (truthy v)) := by intro _; rfl) : PT X e (dB (cnOf X) T W (bTru A)) :=
  impPT (pt_truth ha.pe he) fun σ H Q h => opd1B h fun G1 H1 v d r vw hr sub q => by
    refine ⟨r, ?_, q⟩
    rcases vw with vw | ⟨p, o, rfl, _, ob, rfl⟩
    · cases vw with
      | non => cases hr; exact rfl
      | bl b => cases hr; exact rfl
      | int i => cases hr; exact rfl
      | str x =>
        by_cases hx : x.length ≤ sizeLine
        · simp only [truD, if_pos hx] at hr; cases hr; exact ⟨hx, rfl⟩
        · simp only [truD, if_neg hx] at hr; cases hr
      | lst sq rs =>
        cases hr
        refine .inl ⟨_, (show Same G1 H1 from sub).seq sq, ?_⟩
        cases rs <;> rfl
      | tup sq rs =>
        cases hr
        refine .inr (.inl ⟨_, sqt_mono sub sq, ?_⟩)
        cases rs <;> rfl
      | dctK => cases hr
      | dctN => cases hr
    · cases o with
      | lst ds =>
        obtain ⟨vs, e1, rs⟩ := ob
        cases hr
        refine .inl ⟨vs, .of e1, ?_⟩
        cases rs <;> rfl
      | dct kvs => cases hr
/-! argument lists, displays -/
theorem pa_nD : PA X [] (dA (cnOf X) T W aN) := impPA pa_nil fun σ H Q h => by
  obtain ⟨O, G, ρ, hold, h⟩ := h
  exact h [] G H .refl hold .nil
theorem imp_aC {c : Cn} {σ : St} {H : Hp} {Q : List V → Hp → Prop} (h : dA c T W (aC f as) σ H Q) : tCons (dT c T W f) (dA c T W as) σ H Q := by
  obtain ⟨O, G, ρ, hold, h⟩ := h
  refine ⟨O, G, ρ, hold, ?_⟩
  unfold aC at h
  cases q : f ρ with
  | bad => rw [q] at h; exact h
  | exc x ρ' => rw [q] at h; exact h
  | ok r ρ1 =>
    rw [q] at h
    dsimp only [Res.bind] at h
    intro v G1 H1 t1 hold1 rr
    obtain ⟨G2, s2, t2, hold2, r2⟩ := hold1.frzR hold.oin t1 rr
    refine ⟨O, G2, ρ1, hold2, ?_⟩
    have h' := WtA.later t2 h
    cases q2 : as ρ1 with
    | bad => rw [q2] at h'; exact h'
    | exc x ρ' => rw [q2] at h'; exact h'
    | ok ds ρ2 =>
      rw [q2] at h'
      exact fun vs G3 H3 t3 hold3 rs => h' (v :: vs) G3 H3 t3 hold3 (.cons (r2.mono t3.g) rs)
theorem pa_cD (ha : PE X e (dT (cnOf X) T W f)) (hr : PA X es (dA (cnOf X) T W as)) (hs : noStar e = true) : PA X (e :: es) (dA (cnOf X) T W (aC f as)) :=
  impPA (pa_cons ha hr (starEach_cons hs)) fun _ _ _ h => imp_aC h
theorem pe_tupD {x1 : Nat} (h : PA X es (dA (cnOf X) T W as)) : PE X (.Tuple es x1 pos) (dT (cnOf X) T W (sTup as)) := impPE (pe_tup h) fun σ H Q h => by
  obtain ⟨O, G, ρ, hold, h⟩ := h
  refine ⟨O, G, ρ, hold, ?_⟩
  unfold sTup at h
  cases q : as ρ with
  | bad => rw [q] at h; exact h
  | exc x ρ' => rw [q] at h; exact h
  | ok ds ρ1 =>
    rw [q] at h
    dsimp only [Res.bind] at h
    intro vs G1 H1 t1 hold1 rs
    by_cases hz : ds.length ≤ sizeLine
    rotate_left
    · rw [if_neg hz] at h; exact h.elim
    rw [if_pos hz] at h
    refine ⟨by rw [rs.length]; exact hz, fun p hp => ?_⟩
    have tn := TrN.new (o := .tup vs) hold1.sub hold1.ntb hp (fun ps z => by cases z)
    exact h (.ref p) _ _ (t1.trans' tn.tr) (hold1.trn tn) (.tup (.inl (.inl upd_same)) (rs.mono tn.g))
theorem pe_lstD (h : PA X es (dA (cnOf X) T W as)) : PE X (.List es pos) (dT (cnOf X) T W (sLst as)) := impPE (pe_lst h) fun σ H Q h => by
  obtain ⟨O, G, ρ, hold, h⟩ := h
  refine ⟨O, G, ρ, hold, ?_⟩
  unfold sLst at h
  cases q : as ρ with
  | bad => rw [q] at h; exact h
  | exc x ρ' => rw [q] at h; exact h
  | ok ds ρ1 =>
    rw [q] at h
    dsimp only [Res.bind] at h
    intro vs G1 H1 t1 hold1 rs
    by_cases hz : ds.length ≤ sizeLine
    rotate_left
    · rw [if_neg hz] at h; exact h.elim
    rw [if_pos hz] at h
    refine ⟨by rw [rs.length]; exact hz, fun p hp => ?_⟩
    have tn := TrN.laid (G := G1) (p := p) (o := .lst vs) hold1.sub hold1.ntb hp
    exact h (.ref p) _ _ (t1.trans' tn.tr) (hold1.trn tn) ⟨p, rfl, t1.d p hp, hold1.gnone hp, vs, upd_same, rs⟩
end
end Sd
set_option Elab.async false
set_option linter.all false
set_option maxRecDepth 100000
set_option maxHeartbeats 4000000
set_option autoImplicit false
/-! Sd: operations by data. -/
namespace Sd
open PySem PySem.Spec PyProof.Rows L2

/-! ### values read as data -/
section
variable {X : Cx} {pins : List (Addr × Obj)} {σ : St} {G H : Hp} {s : Shared}
mutual
theorem Rep.reads (I : Inv X pins σ H s) (sub : Same G H) : ∀ (d : D) (v : V) (u : Value), Rep (cnOf X) G v d → d.plain = true → RelV v u → ∃ as, Reads s.heap u d as
  | .none, _, _, h, _, r => by cases h; cases r; exact ⟨_, .none⟩
  | .bool b, _, _, h, _, r => by cases h; cases r; exact ⟨_, .bool b⟩
  | .int i, _, _, h, _, r => by cases h; obtain ⟨t, rfl⟩ := r; exact ⟨_, .int i t⟩
  | .str x, _, _, h, _, r => by cases h; obtain ⟨t, rfl⟩ := r; exact ⟨_, .str x t⟩
  | .list ds, _, _, h, hp, r => by
    cases h with
    | lst sq rs =>
      cases r
      obtain ⟨its, rv, ⟨o, n, ho, hc, _, hd⟩, _⟩ := I.list (Same.seq sub sq)
      obtain ⟨as, hr⟩ := Rep.readsAll I sub ds _ its rs (by simpa [PyData.plain] using hp) rv
      exact ⟨_, .list ho hc hd hr⟩
  | .tuple ds, _, _, h, hp, r => by
    cases h with
    | tup sq rs =>
      cases r
      obtain ⟨its, rv, ⟨o, ho, hc, n, hd⟩, _⟩ := I.tuple (sqt_mono sub sq)
      obtain ⟨as, hr⟩ := Rep.readsAll I sub ds _ its rs (by simpa [PyData.plain] using hp) rv
      exact ⟨_, .tuple ho hc hd hr⟩
  | .dict _, _, _, _, hp, _ => by simp [PyData.plain] at hp
theorem Rep.readsAll (I : Inv X pins σ H s) (sub : Same G H) : ∀ (ds : List D) (vs : List V) (us : List Value), Reps (cnOf X) G vs ds → PyData.plainAll ds = true → Vals vs us → ∃ as, ReadsAll s.heap us ds as
  | [], _, _, h, _, r => by cases h; cases r; exact ⟨_, .nil⟩
  | d :: ds, _, _, h, hp, r => by
    cases h with
    | cons h1 h2 =>
      cases r with
      | cons r1 r2 =>
        simp only [PyData.plainAll, Bool.and_eq_true] at hp
        obtain ⟨as, q1⟩ := Rep.reads I sub d _ _ h1 hp.1 r1
        obtain ⟨bs, q2⟩ := Rep.readsAll I sub ds _ _ h2 hp.2 r2
        exact ⟨_, .cons q1 q2⟩
end
/-- a view of a list: its items -/
theorem Vw.list {c : Cn} {v : V} {ds : List D} (h : Vw c G H v (.list ds)) (sub : Same G H) : ∃ a vs, v = .ref a ∧ SqL c.K H a vs ∧ Reps c G vs ds := by
  rcases h with h | ⟨a, o, rfl, _, ob, e⟩
  · cases h with
    | lst sq rs => exact ⟨_, _, rfl, Same.seq sub sq, rs⟩
  · cases o with
    | lst xs =>
      obtain ⟨vs, e1, rs⟩ := ob
      cases e
      exact ⟨_, _, rfl, .of e1, rs⟩
    | dct _ => cases e
theorem Vw.tuple {c : Cn} {v : V} {ds : List D} (h : Vw c G H v (.tuple ds)) (sub : Same G H) : ∃ a vs, v = .ref a ∧ SqT c.K G a vs ∧ Reps c G vs ds := by
  rcases h with h | ⟨a, o, rfl, _, ob, e⟩
  · cases h with
    | tup sq rs => exact ⟨_, _, rfl, sq, rs⟩
  · cases o <;> cases e
theorem Vw.int {c : Cn} {v : V} {i : Int} (h : Vw c G H v (.int i)) : v = .int i := by
  rcases h with h | ⟨a, o, rfl, _, ob, e⟩
  · cases h; rfl
  · cases o <;> cases e
theorem Vw.str {c : Cn} {v : V} {i : Str} (h : Vw c G H v (.str i)) : v = .str i := by
  rcases h with h | ⟨a, o, rfl, _, ob, e⟩
  · cases h; rfl
  · cases o <;> cases e
theorem Vw.bool {c : Cn} {v : V} {i : Bool} (h : Vw c G H v (.bool i)) : v = .bl i := by
  rcases h with h | ⟨a, o, rfl, _, ob, e⟩
  · cases h; rfl
  · cases o <;> cases e
theorem Vw.none {c : Cn} {v : V} (h : Vw c G H v .none) : v = .non := by
  rcases h with h | ⟨a, o, rfl, _, ob, e⟩
  · cases h; rfl
  · cases o <;> cases e
theorem Vw.reads {v : V} {d : D} {u : Value} (h : Vw (cnOf X) G H v d) (I : Inv X pins σ H s) (sub : Same G H) (hp : d.plain = true) (r : RelV v u) : ∃ as, Reads s.heap u d as := by
  rcases h with h | ⟨a, o, rfl, _, ob, rfl⟩
  · exact h.reads I sub _ _ _ hp r
  · cases o with
    | lst xs =>
      obtain ⟨vs, e1, rs⟩ := ob
      cases r
      obtain ⟨its, rv, ⟨o, n, ho, hc, _, hd⟩, _⟩ := I.list (.of e1)
      obtain ⟨as, hr⟩ := Rep.readsAll I sub xs _ its rs (by simpa [PyData.plain, Ob.frz] using hp) rv
      exact ⟨_, .list ho hc hd hr⟩
    | dct kvs => simp [PyData.plain, Ob.frz] at hp
end

/-! ### rules by data -/
def rD (c : Cn) (p : D → D → Option Sl) : R2 := fun v w H Q => ∃ G d e s, Same G H ∧ (∀ a ps, G a ≠ some (.tbl ps)) ∧ Vw c G H v d ∧ Vw c G H w e ∧ p d e = some s ∧ ∀ u G' H', TrN G H G' H' → RepR c H G' H' u s → Q u H'
def rD1 (c : Cn) (p : D → Option Sl) : V → Hp → VK → Prop := fun v H Q => ∃ G d s, Same G H ∧ (∀ a ps, G a ≠ some (.tbl ps)) ∧ Vw c G H v d ∧ p d = some s ∧ ∀ u G' H', TrN G H G' H' → RepR c H G' H' u s → Q u H'
def rDN (c : Cn) (p : List D → Option Sl) : List V → Hp → VK → Prop := fun vs H Q => ∃ G ds s, Same G H ∧ (∀ a ps, G a ≠ some (.tbl ps)) ∧ Vws c G H vs ds ∧ p ds = some s ∧ ∀ u G' H', TrN G H G' H' → RepR c H G' H' u s → Q u H'
theorem op2_rD (c : Cn) (p : D → D → Option Sl) : Op2 c (rD c p) p := fun G H v w d e s Q sub ntb hv hw hs k => ⟨G, d, e, s, sub, ntb, hv, hw, hs, k⟩
theorem op1_rD (c : Cn) (p : D → Option Sl) : Op1 c (rD1 c p) p := fun G H v d s Q sub ntb hv hs k => ⟨G, d, s, sub, ntb, hv, hs, k⟩
section
variable {X : Cx} {T : Fx} {W : WX} {a b : Expr} {A B C : Opd} {pos : Pos}
theorem pe_opD {op : Operator} {p : D → D → Option Sl} (ho : OpR X (binaryOp op) (rD (cnOf X) p)) (ha : PO' X T W a A) (hb : PO' X T W b B) : PE X (.BinOp a op b pos) (dT (cnOf X) T W (sOp2 p A B)) := pe_op2 ho (op2_rD _ p) ha hb
theorem pe_cmpD {op : CmpOp} {p : D → D → Option Sl} (ho : OpR X (compareOp op) (rD (cnOf X) p)) (hm : behindInMarks op b = false) (ha : PO' X T W a A) (hb : PO' X T W b B) : PE X (.Compare a [op] [b] pos) (dT (cnOf X) T W (sOp2 p A B)) := pe_cmp2 ho hm (op2_rD _ p) ha hb
theorem pe_unD {op : UnaryOp} {p : D → Option Sl} (ho : UnR X (unaryOp op) (rD1 (cnOf X) p)) (ha : PO' X T W a A) : PE X (.UnaryOp op a pos) (dT (cnOf X) T W (sOp1 p A)) := pe_un1 ho (op1_rD _ p) ha
/-- a subscript -/
theorem pe_ixD {p : D → D → Option Sl} (ho : IxR X (rD (cnOf X) p)) (hs : PlainIx b) (ha : PO' X T W a A) (hb : PO' X T W b B) : PE X (.Subscript a b pos) (dT (cnOf X) T W (sOp2 p A B)) :=
  impPE (pe_ix ho ha.pe hb.pe hs) fun σ H Q h => opd2 h fun O G ρ G1 H1 v w d e s _ _ hv hw hs g1 g2 k => op2_rD _ p G1 H1 v w d e s Q g1 g2 hv hw hs k
end

/-! ### any number of operands -/
def tOs (c : Cn) (T : Fx) (W : WX) : List Opd → TA
  | [] => tNil
  | A :: As => tCons (tO c T W A) (tOs c T W As)
inductive OpVs (c : Cn) (G : Hp) (σ : St) : List Opd → List (Option D) → List V → Prop
  | nil : OpVs c G σ [] [] []
  | cons {A : Opd} {As : List Opd} {x : Option D} {xs : List (Option D)} {v : V} {vs : List V} : OpV c G σ A x v → OpVs c G σ As xs vs → OpVs c G σ (A :: As) (x :: xs) (v :: vs)
theorem opds_step {c : Cn} {T : Fx} {W : WX} {σ : St} : ∀ (As : List Opd) {O : Addr → Prop} {G H : Hp} {ρ : Ev} {Q : List V → Hp → Prop} (hold : Hold c T O G σ H ρ) (h : match ph1s As ρ with
    | .ok xs ρ' => ∀ vs G' H', Tr O G H G' H' → Hold c T O G' σ H' ρ' → OpVs c G' σ As xs vs → Q vs H'
    | .exc e ρ' => ∀ G' H', Tr O G H G' H' → Hold c T O G' σ H' ρ' → W e σ H'
    | .bad => False), tOs c T W As σ H Q := by
  intro As
  induction As with
  | nil => intro O G H ρ Q hold h; exact h [] G H .refl hold .nil
  | cons A As ih =>
    intro O G H ρ Q hold h
    refine opd_step hold ?_
    unfold ph1s at h
    cases e1 : A.ph1 ρ with
    | bad => rw [e1] at h; exact h
    | exc x ρ' => rw [e1] at h; exact h
    | ok x ρ1 =>
      rw [e1] at h
      simp only [Res.bind_ok] at h
      intro v G1 H1 tr1 hold1 ov1
      refine ih hold1 ?_
      cases e2 : ph1s As ρ1 with
      | bad => rw [e2] at h; exact h
      | exc x ρ' => rw [e2] at h; exact fun G' H' tr hd => h G' H' (tr1.trans' tr) hd
      | ok xs ρ2 =>
        rw [e2] at h
        exact fun vs G2 H2 tr2 hold2 ov2 => h (v :: vs) G2 H2 (tr1.trans' tr2) hold2 (.cons (ov1.mono tr2.g) ov2)
theorem OpVs.views {c : Cn} {T : Fx} {O : Addr → Prop} {G H : Hp} {σ : St} {ρ : Ev} (hold : Hold c T O G σ H ρ) : ∀ {As : List Opd} {xs : List (Option D)} {vs : List V} {ds : List D}, OpVs c G σ As xs vs → ph2s As xs ρ = some ds → Vws c G H vs ds
  | _, _, _, _, .nil, e => by cases e; exact .nil
  | A :: As, x :: xs, v :: vs, ds, .cons h t, e => by
    simp only [ph2s] at e
    cases q1 : A.ph2 x ρ with
    | none => rw [q1] at e; cases e
    | some d =>
      rw [q1] at e
      cases q2 : ph2s As xs ρ with
      | none => rw [q2] at e; cases e
      | some es =>
        rw [q2] at e
        cases e
        exact .cons (h.view hold q1) (OpVs.views hold t q2)
theorem opdN {c : Cn} {T : Fx} {W : WX} {σ : St} {H : Hp} {As : List Opd} {p : List D → Option Sl} {Q : VK} (h : dT c T W (sN p As) σ H Q) : tOs c T W As σ H fun vs H1 => rDN c p vs H1 Q := by
  obtain ⟨O, G, ρ, hold, h⟩ := h
  unfold sN at h
  refine opds_step As hold ?_
  cases e1 : ph1s As ρ with
  | bad => rw [e1] at h; exact h
  | exc x ρ' => rw [e1] at h; exact h
  | ok xs ρ1 =>
    rw [e1] at h
    simp only [Res.bind_ok] at h
    intro vs G1 H1 tr1 hold1 ov1
    cases q1 : ph2s As xs ρ1 with
    | none => rw [q1] at h; exact h.elim
    | some ds =>
      rw [q1] at h
      simp only [Option.bind_some] at h
      cases q3 : p ds with
      | none => rw [q3] at h; exact h.elim
      | some r =>
        rw [q3] at h
        refine ⟨G1, ds, r, hold1.sub, hold1.ntb, ov1.views hold1 q1, q3, fun u G' H' tn rr => ?_⟩
        refine h u G' H' (tr1.trans' tn.tr) (hold1.trn tn) ?_
        cases r with
        | val d => exact rr
        | own o =>
          obtain ⟨a, rfl, n0, q⟩ := rr
          exact ⟨a, rfl, tr1.d a n0, q⟩
/-- expressions with their operands -/
inductive POs (X : Cx) (T : Fx) (W : WX) : List Expr → List Opd → Prop
  | nil : POs X T W [] []
  | cons {e : Expr} {es : List Expr} {A : Opd} {As : List Opd} : noStar e = true → PO' X T W e A → POs X T W es As → POs X T W (e :: es) (A :: As)
theorem POs.pa {X : Cx} {T : Fx} {W : WX} : ∀ {es : List Expr} {As : List Opd}, POs X T W es As → PA X es (tOs (cnOf X) T W As)
  | _, _, .nil => pa_nil
  | _, _, .cons hs h t => pa_cons h.pe t.pa (starEach_cons hs)
section
variable {X : Cx} {T : Fx} {W : WX} {e : Expr} {es : List Expr} {As : List Opd} {x : Str} {id ty : String} {p0 pos : Pos} {p : List D → Option Sl}
theorem any_star {pos : Pos} {env : PySem.Env} : ∀ {es : List Expr}, es.all noStar = true → (backTo pos (starEach es env)).any (·.1) = false := by
  have key : ∀ {es : List Expr}, es.all noStar = true → (starEach es env).any (·.1) = false := by
    intro es
    induction es with
    | nil => intro _; rfl
    | cons e es ih =>
      intro h
      simp only [List.all_cons, Bool.and_eq_true] at h
      rw [starEach_cons h.1, List.any_cons, ih h.2]
      rfl
  intro es h
  have := key h
  unfold backTo
  cases hs : starEach es env with
  | nil => rfl
  | cons q l =>
    rw [hs] at this
    first
      | (simp only [List.any_map, List.any_cons] at this ⊢; exact this)
      | simpa [backTo] using this
end
end Sd
set_option Elab.async false
set_option linter.all false
set_option maxRecDepth 100000
set_option maxHeartbeats 4000000
set_option autoImplicit false
/-! Sd: the operations. -/
namespace Sd
open PySem PySem.Spec PyProof.Rows L2 PySem.SeqAt
open PySem.W (alike dataLt lt_data gt_data le_data ge_data)

def vI (i : Int) : Option Sl := some (.val (.int i))
def vB (b : Bool) : Option Sl := some (.val (.bool b))
def pAdd : D → D → Option Sl
  | .int i, .int j => vI (i + j)
  | .str x, .str y => if x.length + y.length ≤ sizeLine then some (.val (.str (x ++ y))) else none
  | .tuple xs, .tuple ys => if xs.length + ys.length ≤ sizeLine then some (.val (.tuple (xs ++ ys))) else none
  | .list xs, .list ys => if xs.length + ys.length ≤ sizeLine then some (.own (.lst (xs ++ ys))) else none
  | _, _ => none
def pSub : D → D → Option Sl
  | .int i, .int j => vI (i - j)
  | _, _ => none
def pMul : D → D → Option Sl
  | .int i, .int j => if (-(2 ^ 64) < i ∧ i < 2 ^ 64) ∨ (-(2 ^ 64) < j ∧ j < 2 ^ 64) then vI (i * j) else none
  | .list xs, .int k => if -(2 ^ 63) ≤ k ∧ k < 2 ^ 63 ∧ xs.length * k.toNat ≤ sizeLine then some (.own (.lst (List.replicate k.toNat xs).flatten)) else none
  | .tuple xs, .int k => if xs ≠ [] ∧ 2 ≤ k ∧ k ≤ 1000 ∧ xs.length ≤ 1000 then some (.val (.tuple (List.replicate k.toNat xs).flatten)) else none
  | _, _ => none
def pDiv : D → D → Option Sl
  | .int i, .int j => if 0 < j ∧ j < 1073741824 then vI (i / j) else none
  | _, _ => none
def pMod : D → D → Option Sl
  | .int i, .int j => if 0 < j then vI (i % j) else none
  | _, _ => none
def pPow : D → D → Option Sl
  | .int i, .int j => if 0 ≤ j ∧ j ≤ 1000000 ∧ i.natAbs < 2 ^ 64 then vI (i ^ j.toNat) else none
  | _, _ => none
def okEq (d : D) : Bool := d.plain && decide (d.depth ≤ 60)
def pEq (d e : D) : Option Sl := if (okEq d && okEq e) = true then vB (PyData.eqv d e) else none
def pNe (d e : D) : Option Sl := if (okEq d && okEq e) = true then vB (!PyData.eqv d e) else none
def isNoneD : D → Bool
  | .none => true
  | _ => false
def okLt (d e : D) : Bool := d.plain && e.plain && alike d e && decide (d.depth ≤ 60) && !isNoneD d
def pLt (d e : D) : Option Sl := if okLt d e = true then vB (dataLt d e) else none
def pGt (d e : D) : Option Sl := if okLt d e = true then vB (dataLt e d) else none
def pLe (d e : D) : Option Sl := if okLt d e = true then vB (!dataLt e d) else none
def pGe (d e : D) : Option Sl := if okLt d e = true then vB (!dataLt d e) else none
def inD (d : D) : D → Option Bool
  | .list xs => if (okEq d && okEq (.list xs)) = true then some (xs.any fun y => PyData.eqv y d) else none
  | .tuple xs => if (okEq d && okEq (.tuple xs)) = true then some (xs.any fun y => PyData.eqv y d) else none
  | .str z => match d with
    | .str x => some (!(Builtin.Str.occurrences z x 0 z.length 1).isEmpty)
    | _ => none
  | _ => none
def pIn (d e : D) : Option Sl := (inD d e).bind vB
def pNotIn (d e : D) : Option Sl := (inD d e).bind fun b => vB (!b)
def pIs (d e : D) : Option Sl := match e, d with
  | .none, d => vB (isNoneD d)
  | .bool b, .bool a => vB (decide (a = b))
  | _, _ => none
def pIsNot (d e : D) : Option Sl := match e, d with
  | .none, d => vB (!isNoneD d)
  | .bool b, .bool a => vB (!decide (a = b))
  | _, _ => none
def pNeg : D → Option Sl
  | .int i => vI (-i)
  | _ => none
def pIx : D → D → Option Sl
  | .list xs, .int i => (atI xs i).map .val
  | .tuple xs, .int i => (atI xs i).map .val
  | .str z, .int i => if z.length ≤ sizeLine then (atI z.cps.toList i).map fun c => .val (.str ⟨#[c]⟩) else none
  | _, _ => none

section
variable {X : Cx}
theorem k_val {c : Cn} {G H : Hp} {Q : VK} {v : V} {d : D} (sub : Same G H) (ntb : ∀ a ps, G a ≠ some (.tbl ps)) (k : ∀ u G' H', TrN G H G' H' → RepR c H G' H' u (.val d) → Q u H') (r : Rep c G v d) : Q v H :=
  k v G H (TrN.refl sub ntb) r
theorem gnone {G H : Hp} {p : Addr} (sub : Same G H) (hp : H p = none) : G p = none := by
  cases q : G p with
  | none => rfl
  | some u => rw [sub p u q] at hp; cases hp
theorem k_tup {c : Cn} {G H : Hp} {Q : VK} {vs : List V} {ds : List D} {p : Addr} (sub : Same G H) (ntb : ∀ a ps, G a ≠ some (.tbl ps)) (k : ∀ u G' H', TrN G H G' H' → RepR c H G' H' u (.val (.tuple ds)) → Q u H') (r : Reps c G vs ds) (hp : H p = none) : Q (.ref p) (upd H p (.tup vs)) :=
  have tn := TrN.new (o := .tup vs) sub ntb hp (fun ps z => by cases z)
  k _ _ _ tn (.tup (.inl (.inl upd_same)) (r.mono tn.g))
theorem k_lst {c : Cn} {G H : Hp} {Q : VK} {vs : List V} {ds : List D} {p : Addr} (sub : Same G H) (ntb : ∀ a ps, G a ≠ some (.tbl ps)) (k : ∀ u G' H', TrN G H G' H' → RepR c H G' H' u (.own (.lst ds)) → Q u H') (r : Reps c G vs ds) (hp : H p = none) : Q (.ref p) (upd H p (.lst vs)) :=
  k _ _ _ (TrN.laid sub ntb hp) ⟨p, rfl, hp, gnone sub hp, vs, upd_same, r⟩
/-- list + list, of any kinds -/
theorem op_catL : OpR X (binaryOp .Add) (fun x y H Q => ∃ l b xs zs, x = .ref l ∧ y = .ref b ∧ SqL X.K H l xs ∧ SqL X.K H b zs ∧ xs.length + zs.length ≤ sizeLine ∧ ∀ p, H p = none → Q (.ref p) (upd H p (.lst (xs ++ zs)))) := by
  intro pins s σ H x y v u Q I rx ry h
  obtain ⟨l, b, xs, zs, rfl, rfl, hH, hB, hz, q⟩ := h
  cases rx
  cases ry
  obtain ⟨its, r, ⟨⟨cls, dd, data, sl⟩, n, e, hc, hdd, hd⟩, z⟩ := I.list hH
  obtain ⟨its2, r2, ⟨⟨cls2, dd2, data2, sl2⟩, n2, e2, hc2, hdd2, hd2⟩, z2⟩ := I.list hB
  simp only at hc hdd hd hc2 hdd2 hd2
  subst hc hdd hd hc2 hdd2 hd2
  have h1 := r.length
  have h2 := r2.length
  have e : its.toArray ++ its2.toArray = (its ++ its2).toArray := by simp
  refine concat_meets ⟨_, ‹s.heap.get? l = _›, rfl⟩ ⟨_, e2, rfl⟩ noFill_list_add seq_list_add PySem.F.slot_list_add PySem.F.entry_list_add (PySem.F.args_list_add_2 _ _) (list_addW l b its.toArray its2.toArray n n2 none none sl sl2 (by simp; omega)) ⟨‹s.heap.get? l = _›, e2, ?_⟩
  rw [e]
  exact ⟨.ref _, _, I.lnew (t' := s.toks) (r.append r2) (by rw [List.length_append]; omega), rfl, q _ I.fresh⟩
theorem op_addD : OpR X (binaryOp .Add) (rD (cnOf X) pAdd) := by
  intro pins s σ H x y v u Q I rx ry ⟨G, d, e, r, sub, ntb, hv, hw, hp, k⟩
  cases d <;> cases e <;> first | (cases hp; done) | skip
  · cases hp
    exact op_add pins s σ H _ _ v u Q I rx ry ⟨_, _, hv.int, hw.int, k_val sub ntb k (.int _)⟩
  · rename_i a b
    by_cases hz : a.length + b.length ≤ sizeLine
    · simp only [pAdd, if_pos hz] at hp; cases hp
      exact op_add_str pins s σ H _ _ v u Q I rx ry ⟨_, _, hv.str, hw.str, hz, k_val sub ntb k (.str _)⟩
    · simp only [pAdd, if_neg hz] at hp; cases hp
  · rename_i a b
    by_cases hz : a.length + b.length ≤ sizeLine
    · simp only [pAdd, if_pos hz] at hp; cases hp
      obtain ⟨l, vs, rfl, sv, rv⟩ := hv.list sub
      obtain ⟨m, ws, rfl, sw, rw_⟩ := hw.list sub
      exact op_catL pins s σ H _ _ v u Q I rx ry ⟨_, _, _, _, rfl, rfl, sv, sw, by rw [rv.length, rw_.length]; exact hz, fun p hp => k_lst sub ntb k (rv.append rw_) hp⟩
    · simp only [pAdd, if_neg hz] at hp; cases hp
  · rename_i a b
    by_cases hz : a.length + b.length ≤ sizeLine
    · simp only [pAdd, if_pos hz] at hp; cases hp
      obtain ⟨l, vs, rfl, sv, rv⟩ := hv.tuple sub
      obtain ⟨m, ws, rfl, sw, rw_⟩ := hw.tuple sub
      refine op_catA pins s σ H _ _ v u Q I rx ry ⟨_, _, _, _, rfl, rfl, sqt_mono sub sv, sqt_mono sub sw, by rw [rv.length, rw_.length]; exact hz, fun e => ?_, fun e e2 => ?_, fun e e2 p hp => k_tup sub ntb k (rv.append rw_) hp⟩
      · subst e
        cases rv
        exact k_val sub ntb k (.tup sw rw_)
      · subst e2
        cases rw_
        rw [List.append_nil] at k
        exact k_val sub ntb k (.tup sv rv)
    · simp only [pAdd, if_neg hz] at hp; cases hp
theorem op_subD : OpR X (binaryOp .Sub) (rD (cnOf X) pSub) := by
  intro pins s σ H x y v u Q I rx ry ⟨G, d, e, r, sub, ntb, hv, hw, hp, k⟩
  cases d <;> cases e <;> first | (cases hp; done) | skip
  cases hp
  exact op_sub pins s σ H _ _ v u Q I rx ry ⟨_, _, hv.int, hw.int, k_val sub ntb k (.int _)⟩
theorem op_divD : OpR X (binaryOp .FloorDiv) (rD (cnOf X) pDiv) := by
  intro pins s σ H x y v u Q I rx ry ⟨G, d, e, r, sub, ntb, hv, hw, hp, k⟩
  cases d <;> cases e <;> first | (cases hp; done) | skip
  rename_i i j
  by_cases hz : 0 < j ∧ j < 1073741824
  · simp only [pDiv, if_pos hz] at hp; cases hp
    exact op_fdiv pins s σ H _ _ v u Q I rx ry ⟨_, _, hv.int, hw.int, hz, k_val sub ntb k (.int _)⟩
  · simp only [pDiv, if_neg hz] at hp; cases hp
theorem op_modD : OpR X (binaryOp .Mod) (rD (cnOf X) pMod) := by
  intro pins s σ H x y v u Q I rx ry ⟨G, d, e, r, sub, ntb, hv, hw, hp, k⟩
  cases d <;> cases e <;> first | (cases hp; done) | skip
  rename_i i j
  by_cases hz : 0 < j
  · simp only [pMod, if_pos hz] at hp; cases hp
    exact op_mod pins s σ H _ _ v u Q I rx ry ⟨_, _, hv.int, hw.int, hz, k_val sub ntb k (.int _)⟩
  · simp only [pMod, if_neg hz] at hp; cases hp
theorem op_powD : OpR X (binaryOp .Pow) (rD (cnOf X) pPow) := by
  intro pins s σ H x y v u Q I rx ry ⟨G, d, e, r, sub, ntb, hv, hw, hp, k⟩
  cases d <;> cases e <;> first | (cases hp; done) | skip
  rename_i i j
  by_cases hz : 0 ≤ j ∧ j ≤ 1000000 ∧ i.natAbs < 2 ^ 64
  · simp only [pPow, if_pos hz] at hp; cases hp
    exact op_pow pins s σ H _ _ v u Q I rx ry ⟨_, _, hv.int, hw.int, hz, k_val sub ntb k (.int _)⟩
  · simp only [pPow, if_neg hz] at hp; cases hp
theorem un_negD : UnR X (unaryOp .USub) (rD1 (cnOf X) pNeg) := by
  intro pins s σ H x v Q I rx ⟨G, d, r, sub, ntb, hv, hp, k⟩
  cases d <;> first | (cases hp; done) | skip
  cases hp
  exact un_neg pins s σ H _ v Q I rx ⟨_, hv.int, k_val sub ntb k (.int _)⟩
/-! comparisons -/
theorem okEq_iff {d : D} (h : okEq d = true) : d.plain = true ∧ d.depth ≤ 60 := by
  unfold okEq at h
  simpa using h
theorem okEq2 {d e : D} (h : (okEq d && okEq e) = true) : (d.plain = true ∧ d.depth ≤ 60) ∧ (e.plain = true ∧ e.depth ≤ 60) := by
  rw [Bool.and_eq_true] at h
  exact ⟨okEq_iff h.1, okEq_iff h.2⟩
theorem op_eqDD (hu : X.A.units + 64 < cLine) : OpR X (compareOp .Eq) (rD (cnOf X) pEq) := by
  intro pins s σ H x y v u Q I rx ry ⟨G, d, e, r, sub, ntb, hv, hw, hp, k⟩
  by_cases hz : (okEq d && okEq e) = true
  · simp only [pEq, if_pos hz] at hp; cases hp
    obtain ⟨⟨p1, d1⟩, p2, d2⟩ := okEq2 hz
    obtain ⟨as, r1⟩ := hv.reads I sub p1 rx
    obtain ⟨bs, r2⟩ := hw.reads I sub p2 ry
    exact eq_plain r1 r2 p1 p2 (by omega) ⟨.bl _, H, I, rfl, k_val sub ntb k (.bl _)⟩
  · simp only [pEq, if_neg hz] at hp; cases hp
theorem op_neDD (hu : X.A.units + 64 < cLine) : OpR X (compareOp .NotEq) (rD (cnOf X) pNe) := by
  intro pins s σ H x y v u Q I rx ry ⟨G, d, e, r, sub, ntb, hv, hw, hp, k⟩
  by_cases hz : (okEq d && okEq e) = true
  · simp only [pNe, if_pos hz] at hp; cases hp
    obtain ⟨⟨p1, d1⟩, p2, d2⟩ := okEq2 hz
    obtain ⟨as, r1⟩ := hv.reads I sub p1 rx
    obtain ⟨bs, r2⟩ := hw.reads I sub p2 ry
    exact ne_plain r1 r2 p1 p2 (by omega) ⟨.bl _, H, I, rfl, k_val sub ntb k (.bl _)⟩
  · simp only [pNe, if_neg hz] at hp; cases hp
theorem okLt_iff {d e : D} (h : okLt d e = true) : d.plain = true ∧ e.plain = true ∧ alike d e = true ∧ d.depth ≤ 60 ∧ d ≠ .none := by
  unfold okLt at h
  simp only [Bool.and_eq_true, decide_eq_true_eq, Bool.not_eq_true'] at h
  obtain ⟨⟨⟨⟨h1, h2⟩, h3⟩, h4⟩, h5⟩ := h
  exact ⟨h1, h2, h3, h4, fun z => by rw [z] at h5; cases h5⟩
theorem op_ltD (hu : X.A.units + 64 < cLine) : OpR X (compareOp .Lt) (rD (cnOf X) pLt) := by
  intro pins s σ H x y v u Q I rx ry ⟨G, d, e, r, sub, ntb, hv, hw, hp, k⟩
  by_cases hz : okLt d e = true
  · simp only [pLt, if_pos hz] at hp; cases hp
    obtain ⟨p1, p2, ha, hd, hn⟩ := okLt_iff hz
    obtain ⟨as, r1⟩ := hv.reads I sub p1 rx
    obtain ⟨bs, r2⟩ := hw.reads I sub p2 ry
    exact lt_data r1 r2 ha hn (by omega) ⟨.bl _, H, I, rfl, k_val sub ntb k (.bl _)⟩
  · simp only [pLt, if_neg hz] at hp; cases hp
theorem op_gtD (hu : X.A.units + 64 < cLine) : OpR X (compareOp .Gt) (rD (cnOf X) pGt) := by
  intro pins s σ H x y v u Q I rx ry ⟨G, d, e, r, sub, ntb, hv, hw, hp, k⟩
  by_cases hz : okLt d e = true
  · simp only [pGt, if_pos hz] at hp; cases hp
    obtain ⟨p1, p2, ha, hd, hn⟩ := okLt_iff hz
    obtain ⟨as, r1⟩ := hv.reads I sub p1 rx
    obtain ⟨bs, r2⟩ := hw.reads I sub p2 ry
    exact gt_data r1 r2 ha hn (by omega) ⟨.bl _, H, I, rfl, k_val sub ntb k (.bl _)⟩
  · simp only [pGt, if_neg hz] at hp; cases hp
theorem op_leD (hu : X.A.units + 64 < cLine) : OpR X (compareOp .LtE) (rD (cnOf X) pLe) := by
  intro pins s σ H x y v u Q I rx ry ⟨G, d, e, r, sub, ntb, hv, hw, hp, k⟩
  by_cases hz : okLt d e = true
  · simp only [pLe, if_pos hz] at hp; cases hp
    obtain ⟨p1, p2, ha, hd, hn⟩ := okLt_iff hz
    obtain ⟨as, r1⟩ := hv.reads I sub p1 rx
    obtain ⟨bs, r2⟩ := hw.reads I sub p2 ry
    exact le_data r1 r2 ha hn (by omega) ⟨.bl _, H, I, rfl, k_val sub ntb k (.bl _)⟩
  · simp only [pLe, if_neg hz] at hp; cases hp
theorem op_geD (hu : X.A.units + 64 < cLine) : OpR X (compareOp .GtE) (rD (cnOf X) pGe) := by
  intro pins s σ H x y v u Q I rx ry ⟨G, d, e, r, sub, ntb, hv, hw, hp, k⟩
  by_cases hz : okLt d e = true
  · simp only [pGe, if_pos hz] at hp; cases hp
    obtain ⟨p1, p2, ha, hd, hn⟩ := okLt_iff hz
    obtain ⟨as, r1⟩ := hv.reads I sub p1 rx
    obtain ⟨bs, r2⟩ := hw.reads I sub p2 ry
    exact ge_data r1 r2 ha hn (by omega) ⟨.bl _, H, I, rfl, k_val sub ntb k (.bl _)⟩
  · simp only [pGe, if_neg hz] at hp; cases hp
theorem depth_list (xs : List D) : (PyData.list xs).depth = PyData.depthAll xs + 1 ∨ PyData.depthAll xs ≤ (PyData.list xs).depth := by
  right; simp only [PyData.depth]; omega
theorem depth_tuple (xs : List D) : PyData.depthAll xs ≤ (PyData.tuple xs).depth := by
  simp only [PyData.depth]; omega
theorem op_inDD (hu : X.A.units + 64 < cLine) : OpR X (compareOp .In) (rD (cnOf X) pIn) := by
  intro pins s σ H x y v u Q I rx ry ⟨G, d, e, r, sub, ntb, hv, hw, hp, k⟩
  cases e <;> first | (cases hp; done) | skip
  · rename_i z
    cases d <;> first | (cases hp; done) | skip
    cases hp
    exact op_in_str pins s σ H _ _ v u Q I rx ry ⟨_, _, hv.str, hw.str, k_val sub ntb k (.bl _)⟩
  · rename_i xs
    by_cases hz : (okEq d && okEq (.list xs)) = true
    · simp only [pIn, inD, if_pos hz] at hp; cases hp
      obtain ⟨⟨p1, d1⟩, p2, d2⟩ := okEq2 hz
      obtain ⟨as, r1⟩ := hv.reads I sub p1 rx
      obtain ⟨bs, r2⟩ := hw.reads I sub p2 ry
      exact in_list_data r2 r1 (by simpa [PyData.plain] using p2) p1 (by omega) ⟨.bl _, H, I, rfl, k_val sub ntb k (.bl _)⟩
    · simp only [pIn, inD, if_neg hz] at hp; cases hp
  · rename_i xs
    by_cases hz : (okEq d && okEq (.tuple xs)) = true
    · simp only [pIn, inD, if_pos hz] at hp; cases hp
      obtain ⟨⟨p1, d1⟩, p2, d2⟩ := okEq2 hz
      obtain ⟨as, r1⟩ := hv.reads I sub p1 rx
      obtain ⟨bs, r2⟩ := hw.reads I sub p2 ry
      exact in_tuple_data r2 r1 (by simpa [PyData.plain] using p2) p1 (by omega) ⟨.bl _, H, I, rfl, k_val sub ntb k (.bl _)⟩
    · simp only [pIn, inD, if_neg hz] at hp; cases hp
theorem op_notInDD (hu : X.A.units + 64 < cLine) : OpR X (compareOp .NotIn) (rD (cnOf X) pNotIn) := by
  intro pins s σ H x y v u Q I rx ry ⟨G, d, e, r, sub, ntb, hv, hw, hp, k⟩
  cases e <;> first | (cases hp; done) | skip
  · rename_i z
    cases d <;> first | (cases hp; done) | skip
    cases hp
    exact op_notIn_str pins s σ H _ _ v u Q I rx ry ⟨_, _, hv.str, hw.str, k_val sub ntb k (.bl _)⟩
  · rename_i xs
    by_cases hz : (okEq d && okEq (.list xs)) = true
    · simp only [pNotIn, inD, if_pos hz] at hp; cases hp
      obtain ⟨⟨p1, d1⟩, p2, d2⟩ := okEq2 hz
      obtain ⟨as, r1⟩ := hv.reads I sub p1 rx
      obtain ⟨bs, r2⟩ := hw.reads I sub p2 ry
      exact notIn_list_data r2 r1 (by simpa [PyData.plain] using p2) p1 (by omega) ⟨.bl _, H, I, rfl, k_val sub ntb k (.bl _)⟩
    · simp only [pNotIn, inD, if_neg hz] at hp; cases hp
  · rename_i xs
    by_cases hz : (okEq d && okEq (.tuple xs)) = true
    · simp only [pNotIn, inD, if_pos hz] at hp; cases hp
      obtain ⟨⟨p1, d1⟩, p2, d2⟩ := okEq2 hz
      obtain ⟨as, r1⟩ := hv.reads I sub p1 rx
      obtain ⟨bs, r2⟩ := hw.reads I sub p2 ry
      exact notIn_tuple_data r2 r1 (by simpa [PyData.plain] using p2) p1 (by omega) ⟨.bl _, H, I, rfl, k_val sub ntb k (.bl _)⟩
    · simp only [pNotIn, inD, if_neg hz] at hp; cases hp
theorem Vw.isNone {c : Cn} {G H : Hp} {v : V} {d : D} (h : Vw c G H v d) : decide (v = .non) = isNoneD d := by
  rcases h with h | ⟨a, o, rfl, _, ob, rfl⟩
  · cases h <;> rfl
  · cases o <;> rfl
theorem op_isD : OpR X (compareOp .Is) (rD (cnOf X) pIs) := by
  intro pins s σ H x y v u Q I rx ry ⟨G, d, e, r, sub, ntb, hv, hw, hp, k⟩
  cases e <;> first | (cases hp; done) | skip
  · cases hp
    have e := hv.isNone
    exact op_isN pins s σ H _ _ v u Q I rx ry ⟨hw.none, by rw [e]; exact k_val sub ntb k (.bl _)⟩
  · cases d <;> first | (cases hp; done) | skip
    cases hp
    exact op_isBl pins s σ H _ _ v u Q I rx ry ⟨_, _, hv.bool, hw.bool, k_val sub ntb k (.bl _)⟩
theorem op_isNotD : OpR X (compareOp .IsNot) (rD (cnOf X) pIsNot) := by
  intro pins s σ H x y v u Q I rx ry ⟨G, d, e, r, sub, ntb, hv, hw, hp, k⟩
  cases e <;> first | (cases hp; done) | skip
  · cases hp
    have e := hv.isNone
    exact op_notN pins s σ H _ _ v u Q I rx ry ⟨hw.none, by rw [e]; exact k_val sub ntb k (.bl _)⟩
  · cases d <;> first | (cases hp; done) | skip
    cases hp
    exact op_notBl pins s σ H _ _ v u Q I rx ry ⟨_, _, hv.bool, hw.bool, k_val sub ntb k (.bl _)⟩
/-! subscripts -/
theorem Reps.atI {c : Cn} {G : Hp} {vs : List V} {ds : List D} {i : Int} {d : D} (r : Reps c G vs ds) (h : L2.atI ds i = some d) : ∃ v, L2.atI vs i = some v ∧ Rep c G v d := by
  unfold L2.atI at h ⊢
  rw [r.length]
  cases e : ixN ds.length i with
  | none => rw [e] at h; cases h
  | some j => rw [e] at h; exact r.get j h
theorem ix_D : IxR X (rD (cnOf X) pIx) := by
  intro value slice pins s σ H x y v u Q I rx ry ⟨G, d, e, r, sub, ntb, hv, hw, hp, k⟩ hs
  cases d <;> cases e <;> first | (cases hp; done) | skip
  · rename_i z i
    by_cases hz : z.length ≤ sizeLine
    · simp only [pIx, if_pos hz] at hp
      cases q : atI z.cps.toList i with
      | none => rw [q] at hp; cases hp
      | some c =>
        rw [q] at hp; cases hp
        exact ix_str value slice pins s σ H _ _ v u Q I rx ry ⟨_, _, _, hv.str, hw.int, hz, q, k_val sub ntb k (.str _)⟩ hs
    · simp only [pIx, if_neg hz] at hp; cases hp
  · rename_i xs i
    simp only [pIx] at hp
    cases q : atI xs i with
    | none => rw [q] at hp; cases hp
    | some d =>
      rw [q] at hp; cases hp
      obtain ⟨l, vs, rfl, sv, rv⟩ := hv.list sub
      obtain ⟨w, e1, r1⟩ := rv.atI q
      exact ix_list value slice pins s σ H _ _ v u Q I rx ry ⟨_, _, _, _, rfl, hw.int, sv, e1, k_val sub ntb k r1⟩ hs
  · rename_i xs i
    simp only [pIx] at hp
    cases q : atI xs i with
    | none => rw [q] at hp; cases hp
    | some d =>
      rw [q] at hp; cases hp
      obtain ⟨l, vs, rfl, sv, rv⟩ := hv.tuple sub
      obtain ⟨w, e1, r1⟩ := rv.atI q
      exact ix_tup value slice pins s σ H _ _ v u Q I rx ry ⟨_, _, _, _, rfl, hw.int, sqt_mono sub sv, e1, k_val sub ntb k r1⟩ hs
end
end Sd
set_option Elab.async false
set_option linter.all false
set_option maxRecDepth 100000
set_option maxHeartbeats 4000000
set_option autoImplicit false
/-! Sd: repeating. -/
namespace Sd
open PySem PySem.Spec PyProof.Rows L2
theorem tuple_mul1 (l : Addr) (items : Array Value) (n : Nat) (dd : Option Addr) (sl : Array (Option Value)) (x : Int) (u : Tok) (c0 : (decide (x < -(2 ^ 63)) || decide (x ≥ 2 ^ 63)) = false) (c1 : (items.isEmpty || x == 1) = true) :
    Meets (Builtin.«tuple.__mul__» ⟨[.ref l, .int x u], []⟩) (fun _ R s => s.heap.get? l = some { cls := .type "tuple", dict := dd, data := .seq items n, slots := sl } ∧ R (.ok (.ret (Value.ref l))) s) :=
  .of_wp fun prog w A R s h => by
    obtain ⟨hp, g, d, tk, os⟩ := s
    obtain ⟨hl, h⟩ := h
    have f1 := AutoSeq1.idx_int
    wp_walk using wpAny_loadPart' hl
    refine wpAny_ite_false (decide_eq_false (by rw [c0]; exact Bool.false_ne_true)) ?_
    wp_walk using wpAny_loadPart' hl
    exact ⟨_, rfl, h⟩
theorem tuple_mul0 (l : Addr) (items : Array Value) (n : Nat) (dd : Option Addr) (sl : Array (Option Value)) (x : Int) (u : Tok) (c0 : (decide (x < -(2 ^ 63)) || decide (x ≥ 2 ^ 63)) = false) (c1 : (items.isEmpty || x == 1) = false) (c2 : (decide (x ≤ 0) || items.isEmpty) = true) :
    Meets (Builtin.«tuple.__mul__» ⟨[.ref l, .int x u], []⟩) (fun _ R s => s.heap.get? l = some { cls := .type "tuple", dict := dd, data := .seq items n, slots := sl } ∧ R (.ok (.ret (Value.ref s.heap.objs.size))) { s with heap := s.heap.push { cls := Value.type "tuple", data := Data.seq #[] }, toks := s.toks }) :=
  .of_wp fun prog w A R s h => by
    obtain ⟨hp, g, d, tk, os⟩ := s
    obtain ⟨hl, h⟩ := h
    have f1 := AutoSeq1.idx_int
    wp_walk using wpAny_loadPart' hl
    repeat (first
      | (refine wpAny_ite_false (decide_eq_false (by rw [c0]; exact Bool.false_ne_true)) ?_; wp_walk using wpAny_loadPart' hl)
      | (refine wpAny_ite_false (decide_eq_false (by rw [c1]; exact Bool.false_ne_true)) ?_; wp_walk using wpAny_loadPart' hl)
      | (refine wpAny_ite_true (decide_eq_true c2) ?_; wp_walk using wpAny_loadPart' hl)
      | (refine wpAny_ite_false (decide_eq_false (Nat.not_lt.mpr (Nat.zero_le _))) ?_; wp_walk using wpAny_loadPart' hl))
    all_goals first
      | exact ⟨_, rfl, h⟩
      | skip
section
variable {X : Cx}
/-- t * k, of any kind -/
theorem op_repTA : OpR X (binaryOp .Mult) (fun x y H Q => ∃ l k xs, x = .ref l ∧ y = .int k ∧ SqT X.K H l xs ∧ (-1000 ≤ k ∧ k ≤ 1000) ∧ xs.length ≤ 1000 ∧ ((xs = [] ∨ k = 1) → Q (.ref l) H) ∧ (¬ (xs = [] ∨ k = 1) → ∀ p, H p = none → Q (.ref p) (upd H p (.tup (List.replicate k.toNat xs).flatten)))) := by
  intro pins s σ H x y v u Q I rx ry h
  obtain ⟨l, k, xs, rfl, rfl, hT, hk, hz, q1, q2⟩ := h
  by_cases h1 : xs = [] ∨ k = 1
  · cases rx
    obtain ⟨t, rfl⟩ := ry
    obtain ⟨its, r, ⟨⟨cls, dd, data, sl⟩, ho, hc, n, hd⟩, hs⟩ := I.tuple hT
    simp only at hc hd
    subst hc hd
    have c0 : (decide (k < -(2 ^ 63)) || decide (k ≥ 2 ^ 63)) = false := by
      rw [decide_eq_false (by omega), decide_eq_false (by omega)] <;> rfl
    have c1 : (its.toArray.isEmpty || k == 1) = true := by
      rcases h1 with h1 | h1
      · subst h1; cases r; rfl
      · subst h1; simp
    exact wpAny_binaryOp_repeat_ref (T := "tuple") (U := "int") (by decide) ⟨_, ho, rfl⟩ (fun s' => typeIs_int s' k t) noFill_tuple_mul F.fills_int_mul F.slot_int_rmul repeat_tuple F.slot_int_index.lookup
      (call_meets F.slot_int_rmul (typeIs_int s k t) F.entry_int_rmul (F.args_int_rmul_2 _ _) (int_rmul_tuple k t l its.toArray n dd sl)
        ⟨ho, rfl, ⟨_, ho, rfl⟩, call_meets F.slot_tuple_mul ⟨_, ho, rfl⟩ F.entry_tuple_mul (F.args_tuple_mul_2 _ _) (tuple_mul1 l its.toArray n dd sl k t c0 c1) ⟨ho, .ref l, H, I, rfl, q1 h1⟩⟩)
  · by_cases h2 : k ≤ 0
    · cases rx
      obtain ⟨t, rfl⟩ := ry
      obtain ⟨its, r, ⟨⟨cls, dd, data, sl⟩, ho, hc, n, hd⟩, hs⟩ := I.tuple hT
      simp only at hc hd
      subst hc hd
      have c0 : (decide (k < -(2 ^ 63)) || decide (k ≥ 2 ^ 63)) = false := by
        rw [decide_eq_false (by omega), decide_eq_false (by omega)] <;> rfl
      have hn : its ≠ [] := fun e => h1 (.inl (by
        rw [e] at r
        cases r
        rfl))
      have c1 : (its.toArray.isEmpty || k == 1) = false := by
        cases its with
        | nil => exact absurd rfl hn
        | cons a b =>
          simp
          omega
      have c2 : (decide (k ≤ 0) || its.toArray.isEmpty) = true := by rw [decide_eq_true h2]; rfl
      have e0 : k.toNat = 0 := by omega
      refine wpAny_binaryOp_repeat_ref (T := "tuple") (U := "int") (by decide) ⟨_, ho, rfl⟩ (fun s' => typeIs_int s' k t) noFill_tuple_mul F.fills_int_mul F.slot_int_rmul repeat_tuple F.slot_int_index.lookup
        (call_meets F.slot_int_rmul (typeIs_int s k t) F.entry_int_rmul (F.args_int_rmul_2 _ _) (int_rmul_tuple k t l its.toArray n dd sl)
          ⟨ho, rfl, ⟨_, ho, rfl⟩, call_meets F.slot_tuple_mul ⟨_, ho, rfl⟩ F.entry_tuple_mul (F.args_tuple_mul_2 _ _) (tuple_mul0 l its.toArray n dd sl k t c0 c1 c2) ⟨ho, ?_⟩⟩)
      refine ⟨.ref s.heap.objs.size, _, I.laid (t' := s.toks) (o := .tup (List.replicate k.toNat xs).flatten) (fun b ob q => Heap.get?_push_of_some _ q) (Nat.le_refl _) ?_, rfl, q2 h1 _ (I.hok.fresh (Nat.le_refl _))⟩
      rw [e0]
      exact ⟨Nat.zero_le _, [], .nil, IsTup.new _ _⟩
    · exact op_repT pins s σ H _ _ v u Q I rx ry ⟨l, k, xs, rfl, rfl, hT, fun e => h1 (.inl e), by omega, hk.2, hz, q2 h1⟩
theorem list_mulW (l : Addr) (items : Array Value) (n : Nat) (sl : Array (Option Value)) (x : Int) (u : Tok) (hc0 : ¬(!Builtin.List.listFitsIndex x) = true) (hc1 : ¬items.size * x.toNat > (2 ^ 63 - 1) / 8) (hc2 : ¬Builtin.List.listTooLong (items.size * x.toNat) = true) :
    Meets (Builtin.«list.__mul__» ⟨[.ref l, .int x u], []⟩) (fun _ R s => s.heap.get? l = some { cls := .type "list", dict := none, data := .seq items n, slots := sl } ∧ R (.ok (.ret (Value.ref s.heap.objs.size))) { s with heap := s.heap.push { cls := Value.type "list", data := Data.seq (List.foldl (fun x1 x2 => x1 ++ x2) #[] (List.replicate (if items.isEmpty = true then 0 else x.toNat) items)) }, toks := s.toks }) :=
  .of_wp fun prog w A R s h => by
    obtain ⟨hp, g, d, tk, os⟩ := s; obtain ⟨hl, h⟩ := h
    have hsz := AutoListH.joined_fits hc2
    wp_walk; refine wpAny_ite_false (decide_eq_false (Nat.not_lt.mpr hsz)) ?_; wp_walk; exact ⟨_, rfl, h⟩
theorem int_rmul_list (a : Int) (t : Tok) (l : Addr) (items : Array Value) (n : Nat) (sl : Array (Option Value)) :
    Meets (Builtin.«int.__rmul__» ⟨[.int a t, .ref l], []⟩) (fun _ R s => s.heap.get? l = some { cls := .type "list", dict := none, data := .seq items n, slots := sl } ∧ R (.ok (.ret Value.notImplemented)) s) :=
  .of_wp fun prog w A R s h => by obtain ⟨hp, g, d, tk, os⟩ := s; obtain ⟨hl, h⟩ := h; wp_walk; exact ⟨_, rfl, h⟩
theorem op_repLA : OpR X (binaryOp .Mult) (fun x y H Q => ∃ l k xs, x = .ref l ∧ y = .int k ∧ SqL X.K H l xs ∧ -(2 ^ 63) ≤ k ∧ k < 2 ^ 63 ∧ xs.length * k.toNat ≤ sizeLine ∧
  ∀ p, H p = none → Q (.ref p) (upd H p (.lst (List.replicate k.toNat xs).flatten))) := by
  intro pins s σ H x y v u Q I rx ry h
  obtain ⟨l, k, xs, rfl, rfl, hH, h1, h2, hz, q⟩ := h
  cases rx
  obtain ⟨t, rfl⟩ := ry
  obtain ⟨its, r, ⟨⟨cls, dd, data, sl⟩, n, e, hc, hdd, hd⟩, z⟩ := I.list hH
  simp only at hc hdd hd
  subst hc hdd hd
  have hl := r.length
  have hlen : its.toArray.size * k.toNat ≤ sizeLine := by rw [List.size_toArray, ← hl]; exact hz
  have hcap : ¬ its.toArray.size * k.toNat > (2 ^ 63 - 1) / 8 := by
    have : (sizeLine : Nat) ≤ (2 ^ 63 - 1) / 8 := by decide
    omega
  have hfit : ¬ (!Builtin.List.listFitsIndex k) = true := by
    rw [fitsIndex_both h1 h2]
    exact Bool.false_ne_true
  have hlong : ¬ Builtin.List.listTooLong (its.toArray.size * k.toNat) = true := by
    rw [notLongL hlen]
    exact Bool.false_ne_true
  have hnew : List.foldl (fun x1 x2 => x1 ++ x2) #[] (List.replicate (if its.toArray.isEmpty = true then 0 else k.toNat) its.toArray) = (List.replicate k.toNat its).flatten.toArray := by
    have f0 : ∀ m : Nat, List.foldl (fun x1 x2 => x1 ++ x2) #[] (List.replicate m its.toArray) = (List.replicate m its).flatten.toArray := fun m => by
      have := L2.foldl_rep its m []
      rw [List.nil_append] at this
      exact this
    rw [f0]
    cases its with
    | nil => simp
    | cons a r' => rw [if_neg (by simp)]
  refine wpAny_binaryOp_repeat_ref (T := "list") (U := "int") (by decide) ⟨_, e, rfl⟩ (fun s' => typeIs_int s' k t) noFill_list_mul F.fills_int_mul F.slot_int_rmul repeat_list F.slot_int_index.lookup
    (call_meets F.slot_int_rmul (typeIs_int s k t) F.entry_int_rmul (F.args_int_rmul_2 _ _) (int_rmul_list k t l its.toArray n sl)
      ⟨e, rfl, ⟨_, e, rfl⟩, call_meets F.slot_list_mul ⟨_, e, rfl⟩ F.entry_list_mul (F.args_list_mul_2 _ _) (list_mulW l its.toArray n sl k t hfit hcap hlong) ⟨e, ?_⟩⟩)
  rw [hnew]
  exact ⟨.ref _, _, I.lnew (t' := s.toks) (r.rep k.toNat) (by rw [PyProof.Rows.lm_len_rep_flat, Nat.mul_comm]; exact hz), rfl, q _ I.fresh⟩
def pRep : D → D → Option Sl
  | .int i, .int j => if (-(2 ^ 64) < i ∧ i < 2 ^ 64) ∨ (-(2 ^ 64) < j ∧ j < 2 ^ 64) then vI (i * j) else none
  | .list xs, .int k => if -(2 ^ 63) ≤ k ∧ k < 2 ^ 63 ∧ xs.length * k.toNat ≤ sizeLine then some (.own (.lst (List.replicate k.toNat xs).flatten)) else none
  | .tuple xs, .int k => if (-1000 ≤ k ∧ k ≤ 1000) ∧ xs.length ≤ 1000 then some (.val (.tuple (List.replicate k.toNat xs).flatten)) else none
  | _, _ => none
theorem Reps.rep {c : Cn} {G : Hp} {vs : List V} {ds : List D} (r : Reps c G vs ds) : ∀ n : Nat, Reps c G (List.replicate n vs).flatten (List.replicate n ds).flatten
  | 0 => .nil
  | n + 1 => by
    rw [List.replicate_succ, List.replicate_succ, List.flatten_cons, List.flatten_cons]
    exact r.append (Reps.rep r n)
theorem op_mulD : OpR X (binaryOp .Mult) (rD (cnOf X) pRep) := by
  intro pins s σ H x y v u Q I rx ry ⟨G, d, e, r, sub, ntb, hv, hw, hp, k⟩
  cases d <;> cases e <;> first | (cases hp; done) | skip
  · rename_i i j
    by_cases hz : (-(2 ^ 64) < i ∧ i < 2 ^ 64) ∨ (-(2 ^ 64) < j ∧ j < 2 ^ 64)
    · simp only [pRep, if_pos hz] at hp; cases hp
      exact op_mul pins s σ H _ _ v u Q I rx ry ⟨_, _, hv.int, hw.int, hz, k_val sub ntb k (.int _)⟩
    · simp only [pRep, if_neg hz] at hp; cases hp
  · rename_i xs j
    by_cases hz : -(2 ^ 63) ≤ j ∧ j < 2 ^ 63 ∧ xs.length * j.toNat ≤ sizeLine
    · simp only [pRep, if_pos hz] at hp; cases hp
      obtain ⟨l, vs, rfl, sv, rv⟩ := hv.list sub
      exact op_repLA pins s σ H _ _ v u Q I rx ry ⟨_, _, _, rfl, hw.int, sv, hz.1, hz.2.1, by rw [rv.length]; exact hz.2.2, fun p hp => k_lst sub ntb k (rv.rep _) hp⟩
    · simp only [pRep, if_neg hz] at hp; cases hp
  · rename_i xs j
    by_cases hz : (-1000 ≤ j ∧ j ≤ 1000) ∧ xs.length ≤ 1000
    · simp only [pRep, if_pos hz] at hp; cases hp
      obtain ⟨l, vs, rfl, sv, rv⟩ := hv.tuple sub
      refine op_repTA pins s σ H _ _ v u Q I rx ry ⟨_, _, _, rfl, hw.int, sqt_mono sub sv, hz.1, by rw [rv.length]; exact hz.2, fun e => ?_, fun e p hp => k_tup sub ntb k (rv.rep _) hp⟩
      rcases e with e | e
      · subst e
        cases rv
        have : (List.replicate j.toNat ([] : List D)).flatten = [] := by simp
        rw [this] at k
        exact k_val sub ntb k (.tup sv .nil)
      · subst e
        have : (List.replicate (1 : Int).toNat xs).flatten = xs := by simp [List.replicate]
        rw [this] at k
        exact k_val sub ntb k (.tup sv rv)
    · simp only [pRep, if_neg hz] at hp; cases hp
/-! slices -/
def intD : Sl → Option Int
  | .val (.int i) => some i
  | _ => none
def cutD (xs : List D) (lo hi : Option Int) : List D := (xs.drop (HT.sIx xs.length 0 lo)).take (HT.sIx xs.length xs.length hi - HT.sIx xs.length 0 lo)
def pSl (lo hi : Option Int) : D → Option Sl
  | .list xs => some (.own (.lst (cutD xs lo hi)))
  | .tuple xs => some (.val (.tuple (cutD xs lo hi)))
  | .str z => if z.length ≤ sizeLine then some (.val (.str (cutS z lo hi))) else none
  | _ => none
theorem Reps.cut {c : Cn} {G : Hp} {vs : List V} {ds : List D} (r : Reps c G vs ds) (lo hi : Option Int) : Reps c G (cutV vs lo hi) (cutD ds lo hi) := by
  unfold cutV cutD
  rw [r.length]
  exact (r.drop _).take _
theorem cut_whole {α : Type} (xs : List α) (lo hi : Option Int) (h : HT.sIx xs.length 0 lo = 0 ∧ HT.sIx xs.length xs.length hi = xs.length) : (xs.drop (HT.sIx xs.length 0 lo)).take (HT.sIx xs.length xs.length hi - HT.sIx xs.length 0 lo) = xs := by
  rw [h.1, h.2]
  simp
def rSlD (c : Cn) : V → Option Int → Option Int → Hp → VK → Prop := fun v lo hi H Q => rD1 c (pSl lo hi) v H Q
theorem sl_D : SlR X (rSlD (cnOf X)) := by
  intro pins s σ H x v vl vu lo hi sl Q I rx hs pl pu ⟨G, d, r, sub, ntb, hv, hp, k⟩
  cases d <;> first | (cases hp; done) | skip
  · rename_i z
    by_cases hz : z.length ≤ sizeLine
    · simp only [pSl, if_pos hz] at hp; cases hp
      exact sl_str pins s σ H x v vl vu lo hi sl Q I rx hs pl pu ⟨_, hv.str, hz, k_val sub ntb k (.str _)⟩
    · simp only [pSl, if_neg hz] at hp; cases hp
  · rename_i xs
    cases hp
    obtain ⟨l, vs, rfl, sv, rv⟩ := hv.list sub
    exact sl_list pins s σ H _ v vl vu lo hi sl Q I rx hs pl pu ⟨_, _, rfl, sv, fun p hp => k_lst sub ntb k (rv.cut lo hi) hp⟩
  · rename_i xs
    cases hp
    obtain ⟨l, vs, rfl, sv, rv⟩ := hv.tuple sub
    refine sl_tupA pins s σ H _ v vl vu lo hi sl Q I rx hs pl pu ⟨_, _, rfl, sqt_mono sub sv, fun e => ?_, fun e p hp => k_tup sub ntb k (rv.cut lo hi) hp⟩
    have : cutD xs lo hi = xs := by
      unfold cutD
      rw [rv.length] at e
      exact cut_whole xs lo hi e
    rw [this] at k
    exact k_val sub ntb k (.tup sv rv)
/-- a bound -/
inductive Bd where
  | no
  | ex (f : M Sl)
def Bd.run : Bd → M (Option Int)
  | .no => fun ρ => .ok none ρ
  | .ex f => fun ρ => (f ρ).bind fun r ρ' => match intD r with
    | some i => .ok (some i) ρ'
    | none => .bad
/-- a[lo:hi] -/
def sSl (A : Opd) (lo hi : Bd) : M Sl := fun ρ => (A.ph1 ρ).bind fun x ρ1 => (lo.run ρ1).bind fun l ρ2 => (hi.run ρ2).bind fun h ρ3 => Res.ofO ((A.ph2 x ρ3).bind (pSl l h)) ρ3
def POb (X : Cx) (T : Fx) (W : WX) (e : Option Expr) (b : Bd) : Prop := match b with
  | .no => e = none
  | .ex f => ∃ e', e = some e' ∧ PE X e' (dT (cnOf X) T W f)
def tBd (c : Cn) (T : Fx) (W : WX) : Bd → TO
  | .no => tNoPart
  | .ex f => tPart (dT c T W f)
theorem POb.po {X : Cx} {T : Fx} {W : WX} {e : Option Expr} {b : Bd} (h : POb X T W e b) : PO X e (tBd (cnOf X) T W b) := by
  cases b with
  | no => cases h; exact po_none
  | ex f => obtain ⟨e', rfl, h⟩ := h; exact po_some h
theorem intD_some {r : Sl} {i : Int} (h : intD r = some i) : r = .val (.int i) := by
  unfold intD at h
  split at h
  · cases h; rfl
  · cases h
theorem bd_step {c : Cn} {T : Fx} {W : WX} {O : Addr → Prop} {G H : Hp} {σ : St} {ρ : Ev} {b : Bd} {Q : Option Int → Hp → Prop} (hold : Hold c T O G σ H ρ) (h : match b.run ρ with
    | .ok x ρ' => ∀ G' H', Tr O G H G' H' → Hold c T O G' σ H' ρ' → Q x H'
    | .exc e ρ' => ∀ G' H', Tr O G H G' H' → Hold c T O G' σ H' ρ' → W e σ H'
    | .bad => False) : tBd c T W b σ H Q := by
  cases b with
  | no => exact h G H .refl hold
  | ex f =>
    refine ⟨O, G, ρ, hold, ?_⟩
    simp only [Bd.run] at h
    cases e : f ρ with
    | bad => rw [e] at h; exact h
    | exc x ρ' => rw [e] at h; exact h
    | ok r ρ' =>
      rw [e] at h
      simp only [Res.bind_ok] at h
      cases q : intD r with
      | none => rw [q] at h; exact h.elim
      | some i =>
        rw [q] at h
        intro v G' H' tr hold' rr
        rw [intD_some q] at rr
        cases rr
        exact ⟨i, rfl, h G' H' tr hold'⟩
theorem pe_slD {T : Fx} {W : WX} {e : Expr} {lo hi : Option Expr} {A : Opd} {bl bh : Bd} {pos p2 : Pos} (he : PO' X T W e A) (hl : POb X T W lo bl) (hh : POb X T W hi bh) : PE X (.Subscript e (.Slice lo hi none p2) pos) (dT (cnOf X) T W (sSl A bl bh)) :=
  impPE (pe_slice sl_D he.pe hl.po hh.po) fun σ H Q h => by
    obtain ⟨O, G, ρ, hold, h⟩ := h
    unfold sSl at h
    refine opd_step hold ?_
    cases e1 : A.ph1 ρ with
    | bad => rw [e1] at h; exact h
    | exc x ρ' => rw [e1] at h; exact h
    | ok x ρ1 =>
      rw [e1] at h
      simp only [Res.bind_ok] at h
      intro v G1 H1 tr1 hold1 ov1
      refine bd_step hold1 ?_
      cases e2 : bl.run ρ1 with
      | bad => rw [e2] at h; exact h
      | exc x ρ' => rw [e2] at h; exact fun G' H' tr hd => h G' H' (tr1.trans' tr) hd
      | ok l ρ2 =>
        rw [e2] at h
        simp only [Res.bind_ok] at h
        intro G2 H2 tr2 hold2
        refine bd_step hold2 ?_
        cases e3 : bh.run ρ2 with
        | bad => rw [e3] at h; exact h
        | exc x ρ' => rw [e3] at h; exact fun G' H' tr hd => h G' H' ((tr1.trans' tr2).trans' tr) hd
        | ok u ρ3 =>
          rw [e3] at h
          simp only [Res.bind_ok] at h
          intro G3 H3 tr3 hold3
          cases q1 : A.ph2 x ρ3 with
          | none => rw [q1] at h; exact h.elim
          | some d =>
            rw [q1] at h
            simp only [Option.bind_some] at h
            cases q3 : pSl l u d with
            | none => rw [q3] at h; exact h.elim
            | some r =>
              rw [q3] at h
              refine ⟨G3, d, r, hold3.sub, hold3.ntb, ((ov1.mono tr2.g).mono tr3.g).view hold3 q1, q3, fun u' G' H' tn rr => ?_⟩
              refine h u' G' H' (((tr1.trans' tr2).trans' tr3).trans' tn.tr) (hold3.trn tn) ?_
              exact rr.back ((tr1.trans' tr2).trans' tr3).d
end
end Sd
set_option Elab.async false
set_option linter.all false
set_option maxRecDepth 100000
set_option maxHeartbeats 4000000
set_option autoImplicit false
/-! Sd: calls of builtins. -/
namespace Sd
open PySem PySem.Spec PyProof.Rows L2
open PySem.W (AllAlike Sortable dataLe EachIs)

section
variable {X : Cx} {T : Fx} {W : WX} {e : Expr} {es : List Expr} {A : Opd} {As : List Opd} {x : Str} {id ty : String} {p0 p1 pos : Pos} {p : List D → Option Sl}
theorem starEach_hd (h : noStar e = true) : starEach (e :: es) X.env = (false, eval e X.env) :: starEach es X.env := starEach_cons h
theorem pe_bD (hc : CallR X (.builtin id) (rDN (cnOf X) p)) (hv : bootBuiltins x = some (.builtin id)) (hg : Gl X x) (hm : X.mg x = none) (ha : POs X T W (e :: es) As) (hst : (e :: es).all noStar = true) (hn : x ≠ "__name__" := by decide) (hdb : (x == ("__debug__" : Str)) = false := by decide) :
    PE X (.Call (.Name x p0) (e :: es) [] pos) (dT (cnOf X) T W (sN p As)) := by
  have h2 : noStar e = true ∧ es.all noStar = true := by simpa using hst
  exact impPE (pe_callB hc hg hm hv ha.pa hn hdb (starEach_cons h2.1) (any_star h2.2)) fun σ H Q h => opdN h
theorem pe_tD (hc : CallR X (.type ty) (rDN (cnOf X) p)) (hv : bootBuiltins x = some (.type ty)) (hg : Gl X x) (hm : X.mg x = none) (ha : POs X T W (e :: es) As) (hst : (e :: es).all noStar = true) (hn : x ≠ "__name__" := by decide) (hdb : (x == ("__debug__" : Str)) = false := by decide) :
    PE X (.Call (.Name x p0) (e :: es) [] pos) (dT (cnOf X) T W (sN p As)) := by
  have h2 : noStar e = true ∧ es.all noStar = true := by simpa using hst
  exact impPE (pe_callTy hc hg hm hv ha.pa hn hdb (starEach_cons h2.1) (any_star h2.2)) fun σ H Q h => opdN h

/-! isinstance -/
def isiD (T : String) (d : D) : Option Bool :=
  if T = "int" then some d.isInt else if T = "bool" then some d.isBool else if T = "str" then some d.isStr else if T = "list" then some d.isList else if T = "tuple" then some d.isTuple else if T = "dict" then some d.isDict else none
def pIsi (T : String) (d : D) : Option Sl := if d.plain = true then (isiD T d).bind vB else none
theorem call_isiD (T : String) : CallR X (.builtin "isinstance") (fun xs H Q => ∃ v, xs = [v, .ty T] ∧ rD1 (cnOf X) (pIsi T) v H Q) := by
  intro pins s σ H xs us Q I rs ⟨v, hx, G, d, r, sub, ntb, hv, hp, k⟩
  subst hx
  obtain ⟨u, t, rfl, r1, r2⟩ : ∃ u t, us = [u, t] ∧ RelV v u ∧ RelV (.ty T) t := by
    cases rs with
    | cons a b => cases b with
      | cons c d => cases d; exact ⟨_, _, rfl, a, c⟩
  cases r2
  by_cases hpl : d.plain = true
  rotate_left
  · simp only [pIsi, if_neg hpl] at hp; cases hp
  simp only [pIsi, if_pos hpl] at hp
  obtain ⟨as, rd⟩ := hv.reads I sub hpl r1
  unfold isiD at hp
  split at hp
  · rename_i e; subst e; cases hp
    exact PySem.W.isinstance_int_data rd fun tk _ => ⟨.bl _, H, I.tok _, rfl, k_val sub ntb k (.bl _)⟩
  split at hp
  · rename_i e; subst e; cases hp
    exact PySem.W.isinstance_bool_data rd fun tk _ => ⟨.bl _, H, I.tok _, rfl, k_val sub ntb k (.bl _)⟩
  split at hp
  · rename_i e; subst e; cases hp
    exact PySem.W.isinstance_str_data rd fun tk _ => ⟨.bl _, H, I.tok _, rfl, k_val sub ntb k (.bl _)⟩
  split at hp
  · rename_i e; subst e; cases hp
    exact PySem.W.isinstance_list_data rd fun tk _ => ⟨.bl _, H, I.tok _, rfl, k_val sub ntb k (.bl _)⟩
  split at hp
  · rename_i e; subst e; cases hp
    exact PySem.W.isinstance_tuple_data rd fun tk _ => ⟨.bl _, H, I.tok _, rfl, k_val sub ntb k (.bl _)⟩
  split at hp
  · rename_i e; subst e; cases hp
    exact PySem.W.isinstance_dict_data rd fun tk _ => ⟨.bl _, H, I.tok _, rfl, k_val sub ntb k (.bl _)⟩
  · cases hp
theorem pe_isiD {Tn : String} {y : Str} (hg : Gl X "isinstance") (hm : X.mg "isinstance" = none) (hy : Gl X y) (hmy : X.mg y = none) (hv : bootBuiltins y = some (.type Tn)) (hs : noStar e = true) (ha : PO' X T W e A) (hn : y ≠ "__name__" := by decide) (hdb : (y == ("__debug__" : Str)) = false := by decide) :
    PE X (.Call (.Name "isinstance" p0) [e, .Name y p1] [] pos) (dT (cnOf X) T W (sOp1 (pIsi Tn) A)) := by
  have hb : PE X (.Name y p1) (tC (.ty Tn)) := pe_bltn hy hmy hv (show RelV (.ty Tn) (.type Tn) from rfl) hn hdb
  refine impPE (pe_callB (call_isiD Tn) hg hm (show bootBuiltins "isinstance" = some (.builtin "isinstance") by decide +kernel) (pa_cons ha.pe (pa_cons hb pa_nil rfl) (starEach_cons hs)) (by decide) (by decide) (starEach_cons hs) rfl) fun σ H Q h => ?_
  exact opd1 h fun G1 H1 v d r hv hs g1 g2 k => ⟨v, rfl, op1_rD _ _ G1 H1 v d r Q g1 g2 hv hs k⟩

/-! len, abs, int, sum, min, max, sorted, tuple, list -/
theorem one_arg {c : Cn} {G H : Hp} {vs : List V} {d : D} (h : Vws c G H vs [d]) : ∃ v, vs = [v] ∧ Vw c G H v d := by
  cases h with
  | cons a b => cases b; exact ⟨_, rfl, a⟩
theorem two_args {c : Cn} {G H : Hp} {vs : List V} {d e : D} (h : Vws c G H vs [d, e]) : ∃ v w, vs = [v, w] ∧ Vw c G H v d ∧ Vw c G H w e := by
  cases h with
  | cons a b => cases b with
    | cons c d => cases d; exact ⟨_, _, rfl, a, c⟩
def pLen : List D → Option Sl
  | [.list xs] => vI xs.length
  | [.tuple xs] => vI xs.length
  | [.str x] => if x.length ≤ sizeLine then vI x.length else none
  | _ => none
theorem cr_len : CallR X (.builtin "len") (rDN (cnOf X) pLen) := by
  intro pins s σ H xs us Q I rs ⟨G, ds, r, sub, ntb, hv, hp, k⟩
  unfold pLen at hp
  split at hp
  · cases hp
    obtain ⟨v, rfl, hv1⟩ := one_arg hv; have hv := hv1
    obtain ⟨l, vs, rfl, sv, rv⟩ := hv.list sub
    exact call_len pins s σ H _ us Q I rs ⟨_, _, rfl, .inl ⟨_, sv, rfl⟩, by rw [rv.length]; exact k_val sub ntb k (.int _)⟩
  · cases hp
    obtain ⟨v, rfl, hv1⟩ := one_arg hv; have hv := hv1
    obtain ⟨l, vs, rfl, sv, rv⟩ := hv.tuple sub
    exact call_len pins s σ H _ us Q I rs ⟨_, _, rfl, .inr ⟨_, sqt_mono sub sv, rfl⟩, by rw [rv.length]; exact k_val sub ntb k (.int _)⟩
  · split at hp
    · rename_i hz
      cases hp
      obtain ⟨v, rfl, hv1⟩ := one_arg hv; have hv := hv1
      rw [hv.str] at rs
      exact call_len pins s σ H _ us Q I rs ⟨_, _, rfl, ⟨hz, rfl⟩, k_val sub ntb k (.int _)⟩
    · cases hp
  · cases hp
def pAbs : List D → Option Sl
  | [.int i] => vI (if i < 0 then -i else i)
  | _ => none
theorem cr_abs : CallR X (.builtin "abs") (rDN (cnOf X) pAbs) := by
  intro pins s σ H xs us Q I rs ⟨G, ds, r, sub, ntb, hv, hp, k⟩
  unfold pAbs at hp
  split at hp
  · cases hp
    obtain ⟨v, rfl, hv1⟩ := one_arg hv; have hv := hv1
    rw [hv.int] at rs
    exact call_abs pins s σ H _ us Q I rs ⟨_, rfl, k_val sub ntb k (.int _)⟩
  · cases hp
def pInt : List D → Option Sl
  | [.int i] => vI i
  | [.bool b] => vI (if b then 1 else 0)
  | _ => none
theorem cr_int : CallR X (.type "int") (rDN (cnOf X) pInt) := by
  intro pins s σ H xs us Q I rs ⟨G, ds, r, sub, ntb, hv, hp, k⟩
  unfold pInt at hp
  split at hp
  · cases hp
    obtain ⟨v, rfl, hv1⟩ := one_arg hv; have hv := hv1
    rw [hv.int] at rs
    exact call_int1 pins s σ H _ us Q I rs (.inl ⟨_, rfl, k_val sub ntb k (.int _)⟩)
  · cases hp
    obtain ⟨v, rfl, hv1⟩ := one_arg hv; have hv := hv1
    rw [hv.bool] at rs
    exact call_int1 pins s σ H _ us Q I rs (.inr ⟨_, rfl, k_val sub ntb k (.int _)⟩)
  · cases hp
/-- a list of ints -/
def intsD : List D → Option (List Int)
  | [] => some []
  | .int i :: r => (intsD r).map (i :: ·)
  | _ :: _ => none
theorem intsD_map : ∀ {xs : List D} {ns : List Int}, intsD xs = some ns → xs = ns.map .int
  | [], _, h => by cases h; rfl
  | d :: r, ns, h => by
    cases d <;> first | (cases h; done) | skip
    simp only [intsD] at h
    cases q : intsD r with
    | none => rw [q] at h; cases h
    | some ms => rw [q] at h; cases h; rw [intsD_map q]; rfl
@[simp] theorem intsD_ints : ∀ ns : List Int, intsD (ns.map .int) = some ns
  | [] => rfl
  | n :: ns => by simp only [List.map_cons, intsD, intsD_ints ns]; rfl
theorem Reps.ints {c : Cn} {G : Hp} : ∀ {vs : List V} {ns : List Int}, Reps c G vs (ns.map .int) → vs = ns.map .int
  | _, [], .nil => rfl
  | _, n :: ns, .cons a b => by cases a; rw [Reps.ints b]; rfl
def pSum : List D → Option Sl
  | [.list xs] => (intsD xs).bind fun ns => vI ns.sum
  | _ => none
theorem cr_sumD (hc : X.calm = true) : CallR X (.builtin "sum") (rDN (cnOf X) pSum) := by
  intro pins s σ H xs us Q I rs ⟨G, ds, r, sub, ntb, hv, hp, k⟩
  unfold pSum at hp
  split at hp
  · rename_i xs
    cases q : intsD xs with
    | none => rw [q] at hp; cases hp
    | some ns =>
      rw [q] at hp; cases hp
      obtain ⟨v, rfl, hv1⟩ := one_arg hv; have hv := hv1
      rw [intsD_map q] at hv
      obtain ⟨l, vs, rfl, sv, rv⟩ := hv.list sub
      rw [rv.ints] at sv
      exact cr_sum hc pins s σ H _ us Q I rs ⟨_, _, rfl, sv, k_val sub ntb k (.int _)⟩
  · cases hp
def pMax : List D → Option Sl
  | [.list xs] => (intsD xs).bind fun ns => ns.max?.bind vI
  | [.int i, .int j] => vI (max i j)
  | _ => none
def pMin : List D → Option Sl
  | [.list xs] => (intsD xs).bind fun ns => ns.min?.bind vI
  | [.int i, .int j] => vI (min i j)
  | _ => none
theorem cr_maxD (hc : X.calm = true) : CallR X (.builtin "max") (rDN (cnOf X) pMax) := by
  intro pins s σ H xs us Q I rs ⟨G, ds, r, sub, ntb, hv, hp, k⟩
  unfold pMax at hp
  split at hp
  · rename_i xs
    cases q : intsD xs with
    | none => rw [q] at hp; cases hp
    | some ns =>
      rw [q] at hp
      cases qm : ns.max? with
      | none => simp only [Option.bind_some, qm] at hp; cases hp
      | some m =>
      simp only [Option.bind_some, qm] at hp; cases hp
      obtain ⟨v, rfl, hv1⟩ := one_arg hv; have hv := hv1
      rw [intsD_map q] at hv
      obtain ⟨l, vs, rfl, sv, rv⟩ := hv.list sub
      rw [rv.ints] at sv
      have hm := List.max?_eq_some_iff.mp qm
      refine cr_max hc pins s σ H _ us Q I rs ⟨_, _, rfl, sv, List.length_pos_of_mem hm.1, fun y hy hle => ?_⟩
      have : y = m := Int.le_antisymm (hm.2 y hy) (hle m hm.1)
      subst this
      exact k_val sub ntb k (.int _)
  · rename_i i j
    cases hp
    obtain ⟨v, w, rfl, hv1, hw⟩ := two_args hv; have hv := hv1
    rw [hv.int, hw.int] at rs
    refine call_max2 hc pins s σ H _ us Q I rs ⟨_, _, rfl, ?_⟩
    have : (if j > i then j else i) = max i j := by
      rw [Int.max_def]
      by_cases h : i < j
      · rw [if_pos h, if_pos (by omega)]
      · rw [if_neg h]
        by_cases h2 : i ≤ j
        · rw [if_pos h2]; omega
        · rw [if_neg h2]
    rw [this]
    exact k_val sub ntb k (.int _)
  · cases hp
theorem cr_minD (hc : X.calm = true) : CallR X (.builtin "min") (rDN (cnOf X) pMin) := by
  intro pins s σ H xs us Q I rs ⟨G, ds, r, sub, ntb, hv, hp, k⟩
  unfold pMin at hp
  split at hp
  · rename_i xs
    cases q : intsD xs with
    | none => rw [q] at hp; cases hp
    | some ns =>
      rw [q] at hp
      cases qm : ns.min? with
      | none => simp only [Option.bind_some, qm] at hp; cases hp
      | some m =>
      simp only [Option.bind_some, qm] at hp; cases hp
      obtain ⟨v, rfl, hv1⟩ := one_arg hv; have hv := hv1
      rw [intsD_map q] at hv
      obtain ⟨l, vs, rfl, sv, rv⟩ := hv.list sub
      rw [rv.ints] at sv
      have hm := List.min?_eq_some_iff.mp qm
      refine cr_min hc pins s σ H _ us Q I rs ⟨_, _, rfl, sv, List.length_pos_of_mem hm.1, fun y hy hle => ?_⟩
      have : y = m := Int.le_antisymm (hle m hm.1) (hm.2 y hy)
      subst this
      exact k_val sub ntb k (.int _)
  · rename_i i j
    cases hp
    obtain ⟨v, w, rfl, hv1, hw⟩ := two_args hv; have hv := hv1
    rw [hv.int, hw.int] at rs
    refine call_min2 hc pins s σ H _ us Q I rs ⟨_, _, rfl, ?_⟩
    have : (if j < i then j else i) = min i j := by
      rw [Int.min_def]
      by_cases h : j < i
      · rw [if_pos h, if_neg (by omega)]
      · rw [if_neg h, if_pos (by omega)]
    rw [this]
    exact k_val sub ntb k (.int _)
  · cases hp
/-! tuple, list -/
def pTuple : List D → Option Sl
  | [.list xs] => some (.val (.tuple xs))
  | [.tuple xs] => some (.val (.tuple xs))
  | _ => none
theorem cr_tuple : CallR X (.type "tuple") (rDN (cnOf X) pTuple) := by
  intro pins s σ H xs us Q I rs ⟨G, ds, r, sub, ntb, hv, hp, k⟩
  unfold pTuple at hp
  split at hp
  · cases hp
    obtain ⟨v, rfl, hv1⟩ := one_arg hv; have hv := hv1
    obtain ⟨l, vs, rfl, sv, rv⟩ := hv.list sub
    exact call_tuple_of pins s σ H _ us Q I rs ⟨_, _, rfl, .inl ⟨sv, fun p hp => k_tup sub ntb k rv hp⟩⟩
  · cases hp
    obtain ⟨v, rfl, hv1⟩ := one_arg hv; have hv := hv1
    obtain ⟨l, vs, rfl, sv, rv⟩ := hv.tuple sub
    exact call_tuple_of pins s σ H _ us Q I rs ⟨_, _, rfl, .inr ⟨sqt_mono sub sv, k_val sub ntb k (.tup sv rv)⟩⟩
  · cases hp
def pListC : List D → Option Sl
  | [.list xs] => some (.own (.lst xs))
  | [.tuple xs] => some (.own (.lst xs))
  | _ => none
theorem cr_list : CallR X (.type "list") (rDN (cnOf X) pListC) := by
  intro pins s σ H xs us Q I rs ⟨G, ds, r, sub, ntb, hv, hp, k⟩
  unfold pListC at hp
  split at hp
  · cases hp
    obtain ⟨v, rfl, hv1⟩ := one_arg hv; have hv := hv1
    obtain ⟨l, vs, rfl, sv, rv⟩ := hv.list sub
    exact call_list_of pins s σ H _ us Q I rs ⟨_, _, rfl, .inl sv, fun p hp => k_lst sub ntb k rv hp⟩
  · cases hp
    obtain ⟨v, rfl, hv1⟩ := one_arg hv; have hv := hv1
    obtain ⟨l, vs, rfl, sv, rv⟩ := hv.tuple sub
    exact call_list_of pins s σ H _ us Q I rs ⟨_, _, rfl, .inr (sqt_mono sub sv), fun p hp => k_lst sub ntb k rv hp⟩
  · cases hp
/-! sorted -/
structure SortOk (xs : List D) : Prop where
  al : AllAlike xs
  so : Sortable xs
  pl : PyData.plainAll xs = true
  dp : ∀ d ∈ xs, d.depth ≤ 60
  ln : xs.length ≤ sizeLine
def sortD (xs : List D) : List D := xs.mergeSort (dataLe false fun d => d)
open Classical in
noncomputable def pSorted : List D → Option Sl
  | [.list xs] => if SortOk xs then some (.own (.lst (sortD xs))) else none
  | _ => none
theorem Reps.each {G H : Hp} {pins : List (Addr × Obj)} {σ : St} {s : Shared} (I : Inv X pins σ H s) (sub : Same G H) : ∀ {ds : List D} {vs : List V} {us : List Value}, Reps (cnOf X) G vs ds → Vals vs us → PyData.plainAll ds = true → EachIs (fun u d => ∃ v, RelV v u ∧ Rep (cnOf X) G v d) us ds ∧ EachIs (fun u d => ∃ as, Reads s.heap u d as) us ds
  | [], _, _, h, r, _ => by cases h; cases r; exact ⟨.nil, .nil⟩
  | d :: ds, _, _, h, r, hp => by
    cases h with
    | cons h1 h2 =>
      cases r with
      | cons r1 r2 =>
        simp only [PyData.plainAll, Bool.and_eq_true] at hp
        obtain ⟨q1, q2⟩ := Reps.each I sub h2 r2 hp.2
        exact ⟨.cons ⟨_, r1, h1⟩ q1, .cons (h1.reads I sub _ _ _ hp.1 r1) q2⟩
theorem reps_of {c : Cn} {G : Hp} : ∀ {us : List Value} {ds : List D}, EachIs (fun u d => ∃ v, RelV v u ∧ Rep c G v d) us ds → ∃ vs, Vals vs us ∧ Reps c G vs ds
  | _, _, .nil => ⟨[], .nil, .nil⟩
  | _, _, .cons ⟨v, r1, r2⟩ t => by
    obtain ⟨vs, q1, q2⟩ := reps_of t
    exact ⟨v :: vs, .cons r1 q1, .cons r2 q2⟩
theorem sortD_length (xs : List D) : (sortD xs).length = xs.length := List.length_mergeSort _
theorem cr_sortedD (hu : X.A.units + 64 < cLine) : CallR X (.builtin "sorted") (rDN (cnOf X) pSorted) := by
  intro pins s σ H xs us Q I rs ⟨G, ds, r, sub, ntb, hv, hp, k⟩
  unfold pSorted at hp
  split at hp
  · rename_i xs
    by_cases ok : SortOk xs
    rotate_left
    · rw [if_neg ok] at hp; cases hp
    rw [if_pos ok] at hp; cases hp
    obtain ⟨v, rfl, hv1⟩ := one_arg hv; have hv := hv1
    obtain ⟨l, vs, rfl, sv, rv⟩ := hv.list sub
    obtain ⟨its, rvs, hl, _⟩ := I.list sv
    rw [Vals.ref1 rs]
    obtain ⟨e1, e2⟩ := Reps.each I sub rv rvs ok.pl
    have hid : xs.map (fun d => d) = xs := by simp
    refine PySem.W.sorted_data (enc := fun d => d) hl.isList e1 e2 (by rw [hid]; exact ok.al) (by rw [hid]; exact ok.so) ok.ln (fun b hb => by have := ok.dp b hb; omega) fun out hlen e3 => ?_
    obtain ⟨ws, q1, q2⟩ := reps_of e3
    obtain ⟨ep, he'⟩ := PyProof.Rows.sortedAll_at s.heap its out.toArray
    have hz : ws.length ≤ sizeLine := by rw [q2.length]; exact Nat.le_trans (Nat.le_of_eq (sortD_length xs)) ok.ln
    exact ⟨.ref _, upd H (s.heap.objs.size + 1) (.lst ws), I.laid (t' := s.toks) (fun _ _ => PyProof.Rows.sortedAll_old) (Nat.le_succ _) ⟨hz, out, ep, q1, he'⟩, rfl, k_lst sub ntb k q2 (I.hok.fresh (Nat.le_succ _))⟩
  · cases hp
end
end Sd
set_option Elab.async false
set_option linter.all false
set_option maxRecDepth 100000
set_option maxHeartbeats 4000000
set_option autoImplicit false
/-! Sd: statements. -/
namespace Sd
open PySem PySem.Spec PyProof.Rows L2

inductive Out where
  | nx (ρ : Ev)
  | rt (r : Sl) (ρ : Ev)
  | bk (ρ : Ev)
  | ct (ρ : Ev)
  | exc (c : Str) (ρ : Ev)
  | bad
abbrev MS := Ev → Out
def RetR (c : Cn) (T : Fx) (O : Addr → Prop) (H G' H' : Hp) (v : V) : Sl → Prop
  | .val d => Rep c G' v d
  | .own o => ∃ a, v = .ref a ∧ (H a = none ∨ (T.L = [] ∧ O a)) ∧ G' a = none ∧ ObAt c G' H' a o
section
variable (c : Cn) (T : Fx) (W : WX)
def WtS (O : Addr → Prop) (G : Hp) (σ : St) (H : Hp) (x : Out) (E : Ends) : Prop := match x with
  | .nx ρ' => ∀ O' G' σ' H', (∀ a, O' a → O a ∨ H a = none) → Tr O G H G' H' → Hold c T O' G' σ' H' ρ' → E.nx σ' H'
  | .bk ρ' => ∀ O' G' σ' H', (∀ a, O' a → O a ∨ H a = none) → Tr O G H G' H' → Hold c T O' G' σ' H' ρ' → E.bk σ' H'
  | .ct ρ' => ∀ O' G' σ' H', (∀ a, O' a → O a ∨ H a = none) → Tr O G H G' H' → Hold c T O' G' σ' H' ρ' → E.ct σ' H'
  | .rt r ρ' => ∀ v O' G' σ' H', (∀ a, O' a → O a ∨ H a = none) → Tr O G H G' H' → Hold c T O' G' σ' H' ρ' → RetR c T O H G' H' v r → E.rt v H'
  | .exc e ρ' => ∀ O' G' σ' H', (∀ a, O' a → O a ∨ H a = none) → Tr O G H G' H' → Hold c T O' G' σ' H' ρ' → W e σ' H'
  | .bad => False
def dS (m : MS) : TS := fun E σ H => ∃ O G ρ, Hold c T O G σ H ρ ∧ WtS c T W O G σ H (m ρ) E
end
section
variable {c : Cn} {T : Fx} {W : WX} {O O1 : Addr → Prop} {G H G1 H1 : Hp} {σ σ1 : St} {ρ : Ev}
theorem WtS.later {x : Out} {E : Ends} (ho : ∀ a, O1 a → O a ∨ H a = none) (t : Tr O G H G1 H1) (h : WtS c T W O G σ H x E) : WtS c T W O1 G1 σ1 H1 x E := by
  have o2 : ∀ {O' : Addr → Prop}, (∀ a, O' a → O1 a ∨ H1 a = none) → ∀ a, O' a → O a ∨ H a = none := fun h1 a q => (h1 a q).elim (ho a) fun e => .inr (t.d a e)
  cases x with
  | nx ρ' => exact fun O' G' σ' H' h1 t1 => h O' G' σ' H' (o2 h1) (t.trans ho t1)
  | bk ρ' => exact fun O' G' σ' H' h1 t1 => h O' G' σ' H' (o2 h1) (t.trans ho t1)
  | ct ρ' => exact fun O' G' σ' H' h1 t1 => h O' G' σ' H' (o2 h1) (t.trans ho t1)
  | exc e ρ' => exact fun O' G' σ' H' h1 t1 => h O' G' σ' H' (o2 h1) (t.trans ho t1)
  | rt r ρ' =>
    refine fun v O' G' σ' H' h1 t1 hd rr => h v O' G' σ' H' (o2 h1) (t.trans ho t1) hd ?_
    cases r with
    | val d => exact rr
    | own o =>
      obtain ⟨a, e, h1, h2⟩ := rr
      refine ⟨a, e, ?_, h2⟩
      rcases h1 with h1 | ⟨hL, h1⟩
      · exact .inl (t.d a h1)
      · exact (ho a h1).elim (fun z => .inr ⟨hL, z⟩) .inl
  | bad => exact h
/-- a slot takes an owned object -/
theorem Hold.setO {i : Nat} {a : Addr} {o : Ob} (h : Hold c T O G σ H ρ) (hi : i < σ.length) (hO : ¬ O a) (hg : G a = none) (q : ObAt c G H a o) (hL : ∀ p ∈ T.L, p.1 ≠ i) : Hold c T (fun x => O x ∨ x = a) G (σ.set i (some (.ref a))) H (ρ.set i (some (.own o))) where
  sub := h.sub
  ntb := h.ntb
  oin := fun x hx => by
    rcases hx with hx | rfl
    · exact h.oin x hx
    · obtain ⟨u, hu, _⟩ := q.there
      rw [hu]; simp
  tab := h.tab
  lnt := fun p hp => by rw [List.getElem?_set_ne (Ne.symm (hL p hp))]; exact h.lnt p hp
  len := by rw [List.length_set, List.length_set]; exact h.len
  slot := fun j s hj => by
    rcases set_some_of hj with ⟨rfl, hs⟩ | ⟨hne, hj'⟩
    · cases hs
      exact ⟨.ref a, by rw [List.getElem?_set_self hi], a, rfl, .inr rfl, hg, q⟩
    · rw [List.getElem?_set_ne (Ne.symm hne)]
      obtain ⟨v, e, r⟩ := h.slot j s hj'
      refine ⟨v, e, ?_⟩
      cases s with
      | val d => exact r
      | own o' => obtain ⟨b, e1, h1, h2⟩ := r; exact ⟨b, e1, .inl h1, h2⟩
  apart := fun j l o1 o2 b hjl hj hl ha hb => by
    have own_ne : ∀ {j : Nat} {o' : Ob}, ρ[j]? = some (some (.own o')) → σ[j]? ≠ some (some (.ref a)) := fun {j o'} hj e => by
      obtain ⟨b, e1, h1, _⟩ := h.at_own hj
      rw [e] at e1; cases e1
      exact hO h1
    rcases set_some_of hj with ⟨rfl, hs⟩ | ⟨hne, hj⟩
    · rcases set_some_of hl with ⟨rfl, hs2⟩ | ⟨hne2, hl⟩
      · exact hjl rfl
      · rw [List.getElem?_set_self hi] at ha
        cases ha
        rw [List.getElem?_set_ne (Ne.symm hne2)] at hb
        exact own_ne hl hb
    · rw [List.getElem?_set_ne (Ne.symm hne)] at ha
      rcases set_some_of hl with ⟨rfl, hs2⟩ | ⟨hne2, hl⟩
      · rw [List.getElem?_set_self hi] at hb
        cases hb
        exact own_ne ‹ρ[j]? = some (some (Sl.own o1))› ha
      · rw [List.getElem?_set_ne (Ne.symm hne2)] at hb
        exact h.apart j l o1 o2 b hjl hj hl ha hb
end

/-! ### semantics -/
def Out.seq (x : Out) (m : MS) : Out := match x with
  | .nx ρ => m ρ
  | .rt r ρ => .rt r ρ
  | .bk ρ => .bk ρ
  | .ct ρ => .ct ρ
  | .exc c ρ => .exc c ρ
  | .bad => .bad
@[simp] theorem Out.seq_nx (ρ : Ev) (m : MS) : (Out.nx ρ).seq m = m ρ := Eq.trans rfl rfl
@[simp] theorem Out.seq_rt (r : Sl) (ρ : Ev) (m : MS) : (Out.rt r ρ).seq m = .rt r ρ := rfl
@[simp] theorem Out.seq_bk (ρ : Ev) (m : MS) : (Out.bk ρ).seq m = .bk ρ := rfl
@[simp] theorem Out.seq_ct (ρ : Ev) (m : MS) : (Out.ct ρ).seq m = .ct ρ := rfl
@[simp] theorem Out.seq_exc (c : Str) (ρ : Ev) (m : MS) : (Out.exc c ρ).seq m = .exc c ρ := rfl
@[simp] theorem Out.seq_bad (m : MS) : Out.bad.seq m = .bad := rfl
def Res.out {α : Type} (r : Res α) (f : α → Ev → Out) : Out := match r with
  | .ok a ρ => f a ρ
  | .exc c ρ => .exc c ρ
  | .bad => .bad
@[simp] theorem Res.out_ok {α : Type} (a : α) (ρ : Ev) (f : α → Ev → Out) : Res.out (.ok a ρ) f = f a ρ := Eq.trans rfl rfl
@[simp] theorem Res.out_exc {α : Type} (c : Str) (ρ : Ev) (f : α → Ev → Out) : Res.out (.exc c ρ) f = .exc c ρ := rfl
@[simp] theorem Res.out_bad {α : Type} (f : α → Ev → Out) : Res.out .bad f = .bad := rfl
def mNext : MS := fun ρ => .nx ρ
def mSeq (m n : MS) : MS := fun ρ => (m ρ).seq n
def mIf (b : M Bool) (m n : MS) : MS := fun ρ => (b ρ).out fun x ρ' => if x = true then m ρ' else n ρ'
def mRet (f : M Sl) : MS := fun ρ => (f ρ).out fun r ρ' => .rt r ρ'
def mRetV (i : Nat) : MS := fun ρ => match ρ[i]? with
  | some (some s) => .rt s (ρ.set i none)
  | _ => .bad
def mRetN : MS := fun ρ => .rt (.val .none) ρ
def mBreak : MS := fun ρ => .bk ρ
def mCont : MS := fun ρ => .ct ρ
def mDrop (f : M Sl) : MS := fun ρ => (f ρ).out fun _ ρ' => .nx ρ'
def mSet (i : Nat) (f : M Sl) : MS := fun ρ => (f ρ).out fun r ρ' => .nx (ρ'.set i (some r))
def mAsg (t : Tgt) (f : M Sl) : MS := fun ρ => (f ρ).out fun r ρ' => match assignT t r.frz ρ' with
  | some ρ2 => .nx ρ2
  | none => .bad
/-- a turn's end, its loop -/
def Out.turn (x : Out) (again : MS) : Out := match x with
  | .nx ρ => again ρ
  | .ct ρ => again ρ
  | .bk ρ => .nx ρ
  | .rt r ρ => .rt r ρ
  | .exc c ρ => .exc c ρ
  | .bad => .bad
@[simp] theorem Out.turn_nx (ρ : Ev) (m : MS) : (Out.nx ρ).turn m = m ρ := Eq.trans rfl rfl
@[simp] theorem Out.turn_ct (ρ : Ev) (m : MS) : (Out.ct ρ).turn m = m ρ := Eq.trans rfl rfl
@[simp] theorem Out.turn_bk (ρ : Ev) (m : MS) : (Out.bk ρ).turn m = .nx ρ := rfl
@[simp] theorem Out.turn_rt (r : Sl) (ρ : Ev) (m : MS) : (Out.rt r ρ).turn m = .rt r ρ := rfl
@[simp] theorem Out.turn_exc (c : Str) (ρ : Ev) (m : MS) : (Out.exc c ρ).turn m = .exc c ρ := rfl
@[simp] theorem Out.turn_bad (m : MS) : Out.bad.turn m = .bad := rfl
def forItems (t : Tgt) (body : MS) : List D → MS
  | [] => fun ρ => .nx ρ
  | d :: ds => fun ρ => match assignT t d ρ with
    | some ρ1 => (body ρ1).turn (forItems t body ds)
    | none => .bad
def mFor (it : M (List D)) (t : Tgt) (body : MS) : MS := fun ρ => (it ρ).out fun items ρ' => forItems t body items ρ'
/-- a while by fuel -/
def whileN (b : M Bool) (body : MS) : Nat → MS
  | 0 => fun _ => .bad
  | n + 1 => fun ρ => (b ρ).out fun x ρ' => if x = true then (body ρ').turn (whileN b body n) else .nx ρ'
open Classical in
noncomputable def mWhile (b : M Bool) (body : MS) : MS := fun ρ => if h : ∃ n, whileN b body n ρ ≠ .bad then whileN b body (choose h) ρ else .bad
theorem turn_mono {x : Out} {m m' : MS} (h : ∀ ρ, m ρ ≠ .bad → m' ρ = m ρ) (hx : x.turn m ≠ .bad) : x.turn m' = x.turn m := by
  cases x <;> first | rfl | exact h _ hx
theorem whileN_succ {b : M Bool} {body : MS} : ∀ (n : Nat) (ρ : Ev), whileN b body n ρ ≠ .bad → whileN b body (n + 1) ρ = whileN b body n ρ := by
  intro n
  induction n with
  | zero => intro ρ h; exact (h rfl).elim
  | succ n ih =>
    intro ρ h
    show (b ρ).out _ = (b ρ).out _
    have h : (b ρ).out (fun x ρ' => if x = true then (body ρ').turn (whileN b body n) else .nx ρ') ≠ .bad := h
    cases e : b ρ with
    | bad => rfl
    | exc c ρ' => rfl
    | ok x ρ' =>
      rw [e] at h
      simp only [Res.out_ok] at h ⊢
      cases x with
      | false => rfl
      | true => exact turn_mono (fun ρ => ih ρ) h
theorem whileN_le {b : M Bool} {body : MS} {n m : Nat} (h : n ≤ m) {ρ : Ev} (hn : whileN b body n ρ ≠ .bad) : whileN b body m ρ = whileN b body n ρ := by
  induction h with
  | refl => rfl
  | step h ih => rw [whileN_succ _ _ (by rw [ih]; exact hn), ih]
theorem mWhile_eq {b : M Bool} {body : MS} {n : Nat} {ρ : Ev} (h : whileN b body n ρ ≠ .bad) : mWhile b body ρ = whileN b body n ρ := by
  unfold mWhile
  have hx : ∃ n, whileN b body n ρ ≠ .bad := ⟨n, h⟩
  rw [dif_pos hx]
  have h2 := Classical.choose_spec hx
  rcases Nat.le_total n (Classical.choose hx) with q | q
  · exact whileN_le q h
  · exact (whileN_le q h2).symm

section
variable {X : Cx} {T : Fx} {W : WX} {e a b : Expr} {st : Stmt} {rest sts ss2 : List Stmt} {pos : Pos} {f g : M Sl} {t u : M Bool} {m n : MS} {i : Nat} {x : Str}
theorem pss_nD : PSs X [] (dS (cnOf X) T W mNext) := impPSs pss_nil fun E σ H h => by
  obtain ⟨O, G, ρ, hold, h⟩ := h
  exact h O G σ H (fun _ z => .inl z) .refl hold
theorem imp_seq {c : Cn} {E : Ends} {σ : St} {H : Hp} (h : dS c T W (mSeq m n) E σ H) : dS c T W m { E with nx := fun σ' H' => dS c T W n E σ' H' } σ H := by
  obtain ⟨O, G, ρ, hold, h⟩ := h
  refine ⟨O, G, ρ, hold, ?_⟩
  unfold mSeq at h
  cases q : m ρ with
  | nx ρ1 =>
    rw [q] at h
    exact fun O' G' σ' H' ho tr hd => ⟨O', G', ρ1, hd, WtS.later ho tr h⟩
  | rt r ρ1 => rw [q] at h; exact h
  | bk ρ1 => rw [q] at h; exact h
  | ct ρ1 => rw [q] at h; exact h
  | exc c ρ1 => rw [q] at h; exact h
  | bad => rw [q] at h; exact h
theorem pss_cD (h1 : PS X st (dS (cnOf X) T W m)) (h2 : PSs X rest (dS (cnOf X) T W n)) : PSs X (st :: rest) (dS (cnOf X) T W (mSeq m n)) := impPSs (pss_cons h1 h2) fun _ _ _ h => imp_seq h
theorem pss_1D (h1 : PS X st (dS (cnOf X) T W m)) : PSs X [st] (dS (cnOf X) T W m) := pss_one h1
theorem ps_ifD (hc : PT X e (dB (cnOf X) T W t)) (ha : PSs X sts (dS (cnOf X) T W m)) (hb : PSs X ss2 (dS (cnOf X) T W n)) : PS X (.If e sts ss2 pos) (dS (cnOf X) T W (mIf t m n)) :=
  impPS (ps_if hc ha hb) fun E σ H h => by
    obtain ⟨O, G, ρ, hold, h⟩ := h
    refine ⟨O, G, ρ, hold, ?_⟩
    unfold mIf at h
    cases q : t ρ with
    | bad => rw [q] at h; exact h
    | exc x ρ' => rw [q] at h; exact fun G' H' tr hd => h O G' σ H' (fun _ z => .inl z) tr hd
    | ok x ρ' =>
      rw [q] at h
      intro G1 H1 t1 hold1
      have h' := WtS.later (σ1 := σ) (fun _ z => .inl z) t1 h
      cases x with
      | true => exact ⟨O, G1, ρ', hold1, h'⟩
      | false => exact ⟨O, G1, ρ', hold1, h'⟩
theorem ps_passD : PS X (.Pass pos) (dS (cnOf X) T W mNext) := impPS ps_pass fun E σ H h => by
  obtain ⟨O, G, ρ, hold, h⟩ := h
  exact h O G σ H (fun _ z => .inl z) .refl hold
theorem ps_breakD : PS X (.Break pos) (dS (cnOf X) T W mBreak) := impPS ps_break fun E σ H h => by
  obtain ⟨O, G, ρ, hold, h⟩ := h
  exact h O G σ H (fun _ z => .inl z) .refl hold
theorem ps_contD : PS X (.Continue pos) (dS (cnOf X) T W mCont) := impPS ps_continue fun E σ H h => by
  obtain ⟨O, G, ρ, hold, h⟩ := h
  exact h O G σ H (fun _ z => .inl z) .refl hold
theorem ps_retD (he : PE X e (dT (cnOf X) T W f)) : PS X (.Return (some e) pos) (dS (cnOf X) T W (mRet f)) := impPS (ps_ret he) fun E σ H h => by
  obtain ⟨O, G, ρ, hold, h⟩ := h
  refine ⟨O, G, ρ, hold, ?_⟩
  unfold mRet at h
  cases q : f ρ with
  | bad => rw [q] at h; exact h
  | exc x ρ' => rw [q] at h; exact fun G' H' tr hd => h O G' σ H' (fun _ z => .inl z) tr hd
  | ok r ρ' =>
    rw [q] at h
    intro v G' H' tr hd rr
    refine h v O G' σ H' (fun _ z => .inl z) tr hd ?_
    cases r with
    | val d => exact rr
    | own o => obtain ⟨a, e1, e2, e3⟩ := rr; exact ⟨a, e1, .inl e2, e3⟩
/-- return x: an owned object goes out -/
theorem ps_retVD (he : PE X e (tVar i)) (hL : T.L = []) : PS X (.Return (some e) pos) (dS (cnOf X) T W (mRetV i)) := impPS (ps_ret he) fun E σ H h => by
  obtain ⟨O, G, ρ, hold, h⟩ := h
  unfold mRetV at h
  cases q : ρ[i]? with
  | none => rw [q] at h; exact h.elim
  | some o =>
  cases o with
  | none => rw [q] at h; exact h.elim
  | some s =>
  rw [q] at h
  obtain ⟨v, e1, q1⟩ := hold.slot i s q
  have hold' : Hold (cnOf X) T O G σ H (ρ.set i none) := hold.weak rfl (by rw [List.length_set]) hold.lnt fun j s' hj => by
    rcases set_some_of hj with ⟨_, z⟩ | ⟨_, z⟩
    · cases z
    · exact ⟨z, rfl⟩
  refine ⟨v, e1, h v O G σ H (fun _ z => .inl z) .refl hold' ?_⟩
  cases s with
  | val d => exact q1
  | own o => obtain ⟨a, e1, e2, e3⟩ := q1; exact ⟨a, e1, .inr ⟨hL, e2⟩, e3⟩
theorem ps_retND : PS X (.Return none pos) (dS (cnOf X) T W mRetN) := impPS ps_retN fun E σ H h => by
  obtain ⟨O, G, ρ, hold, h⟩ := h
  exact h .non O G σ H (fun _ z => .inl z) .refl hold .non
theorem ps_dropD (he : PE X e (dT (cnOf X) T W f)) (hs : swapsWith e none pos.line X.env = pure false := by rfl) : PS X (.Expr e pos) (dS (cnOf X) T W (mDrop f)) := impPS (ps_expr he hs) fun E σ H h => by
  obtain ⟨O, G, ρ, hold, h⟩ := h
  refine ⟨O, G, ρ, hold, ?_⟩
  unfold mDrop at h
  cases q : f ρ with
  | bad => rw [q] at h; exact h
  | exc x ρ' => rw [q] at h; exact fun G' H' tr hd => h O G' σ H' (fun _ z => .inl z) tr hd
  | ok r ρ' =>
    rw [q] at h
    exact fun v G' H' tr hd rr => h O G' σ H' (fun _ z => .inl z) tr hd
theorem impPSL {e : Stmt} {t t' : TS} (h : PS X e t) (i : ∀ D σ H, σ.length = X.N.length → t' D σ H → t D σ H) : PS X e t' := ⟨fun pins s σ H D I q => h.run pins s σ H D I (i D σ H I.len q)⟩
/-- a store at slot i -/
theorem imp_set {E : Ends} {σ : St} {H : Hp} (hi : i < X.N.length) (hσ : σ.length = X.N.length) (hL : ∀ p ∈ T.L, p.1 ≠ i) (h : dS (cnOf X) T W (mSet i f) E σ H) : tAsg (dT (cnOf X) T W f) (gName i) E σ H := by
  obtain ⟨O, G, ρ, hold, h⟩ := h
  refine ⟨O, G, ρ, hold, ?_⟩
  unfold mSet at h
  cases q : f ρ with
  | bad => rw [q] at h; exact h
  | exc x ρ' => rw [q] at h; exact fun G' H' tr hd => h O G' σ H' (fun _ z => .inl z) tr hd
  | ok r ρ' =>
    rw [q] at h
    intro v G' H' tr hd rr
    cases r with
    | val d => exact h O G' _ H' (fun _ z => .inl z) tr (hd.setV rr hL)
    | own o =>
      obtain ⟨a, rfl, n0, hg, ob⟩ := rr
      have hO : ¬ O a := fun z => hold.oin a z n0
      exact h (fun y => O y ∨ y = a) G' _ H' (fun y hy => hy.elim .inl fun z => by rw [z]; exact .inr n0) tr (hd.setO (by rw [hσ]; exact hi) hO hg ob hL)
theorem lt_of_get {l : List Str} {i : Nat} {x : Str} (h : l[i]? = some x) : i < l.length := (List.getElem?_eq_some_iff.mp h).1
theorem ps_setD {pos' : Pos} (hN : X.N.Nodup) (hi : X.N[i]? = some x) (hx : Loc X.env.scope x) (hL : ∀ p ∈ T.L, p.1 ≠ i) (he : PE X e (dT (cnOf X) T W f)) (hs : swapsWith e (some (.Name x pos')) pos.line X.env = pure false := by rfl) (hf : X.fn x = true ∨ X.env.scope.names.lookup x = some .local := by first | exact .inl rfl | exact .inr rfl | assumption) :
    PS X (.Assign [.Name x pos'] e pos) (dS (cnOf X) T W (mSet i f)) := impPSL (ps_set hN hi hx he hs hf) fun E σ H hl h => imp_set (lt_of_get hi) hl hL h
/-- .. any rule for name = .. -/
theorem ps_setD' (hi : X.N[i]? = some x) (hL : ∀ p ∈ T.L, p.1 ≠ i) (h : PS X st (tAsg (dT (cnOf X) T W f) (gName i))) : PS X st (dS (cnOf X) T W (mSet i f)) := impPSL h fun E σ H hl h => imp_set (lt_of_get hi) hl hL h
theorem ps_asgD {tg : Expr} {tt : Tgt} (he : PE X e (dT (cnOf X) T W f)) (hg : PG X tg (dG (cnOf X) T tt)) (hs : swapsWithSole [tg] e pos.line X.env = pure false := by rfl) (hw : swappedStores [tg] e X.env = pure none := by rfl)
    (h1 : (assignEach [tg] X.env).map (·.2) = [assign tg X.env] := by rfl) : PS X (.Assign [tg] e pos) (dS (cnOf X) T W (mAsg tt f)) := impPS (ps_asg he hg hs hw h1) fun E σ H h => by
  obtain ⟨O, G, ρ, hold, h⟩ := h
  refine ⟨O, G, ρ, hold, ?_⟩
  unfold mAsg at h
  cases q : f ρ with
  | bad => rw [q] at h; exact h
  | exc x ρ' => rw [q] at h; exact fun G' H' tr hd => h O G' σ H' (fun _ z => .inl z) tr hd
  | ok r ρ' =>
    rw [q] at h
    intro v G' H' tr hd rr
    obtain ⟨G2, s2, tr2, hd2, r2⟩ := hd.frzR hold.oin tr rr
    simp only [Res.out_ok] at h
    cases q2 : assignT tt r.frz ρ' with
    | none => rw [q2] at h; exact h.elim
    | some ρ2 =>
      rw [q2] at h
      exact ⟨O, G2, ρ', _, hd2, r2, ρ2, q2, fun σ' _ _ hd3 => h O G2 σ' H' (fun _ z => .inl z) tr2 hd3⟩
/-! loops -/
theorem Hold.ownAll {c : Cn} {O : Addr → Prop} {G H : Hp} {σ : St} {ρ : Ev} (h : Hold c T O G σ H ρ) : True := trivial
theorem imp_for {c : Cn} {it : M (List D)} {tt : Tgt} {E : Ends} {σ : St} {H : Hp} (h : dS c T W (mFor it tt m) E σ H) : tFor (dI c T W it) (dG c T tt) (dS c T W m) E σ H := by
  obtain ⟨O, G, ρ, hold, h⟩ := h
  refine ⟨O, G, ρ, hold, ?_⟩
  unfold mFor at h
  cases q : it ρ with
  | bad => rw [q] at h; exact h
  | exc x ρ' => rw [q] at h; exact fun G' H' tr hd => h O G' σ H' (fun _ z => .inl z) tr hd
  | ok items ρ1 =>
  rw [q] at h
  simp only [Res.out_ok] at h
  intro J G1 H1 t1 hold1 io
  have h1 := WtS.later (O1 := O) (σ1 := σ) (fun _ z => .inl z) t1 h
  refine ⟨fun i k σ' H' => k = items.length - i ∧ i ≤ items.length ∧ ∃ O' G' ρ', Hold c T O' G' σ' H' ρ' ∧ Same G1 G' ∧ WtS c T W O' G' σ' H' (forItems tt m (items.drop i) ρ') E,
    ⟨items.length, by simp, Nat.zero_le _, O, G1, ρ1, hold1, fun _ _ z => z, by simpa using h1⟩, ?_⟩
  rintro i k σ' H' ⟨rfl, hi, O', G', ρ', hold', sg, h'⟩
  by_cases hlt : i < items.length
  · right
    refine ⟨io.go G' H' i sg hold'.sub hlt, ?_⟩
    have hd : items.drop i = items[i] :: items.drop (i + 1) := List.drop_eq_getElem_cons hlt
    rw [hd] at h'
    simp only [forItems] at h'
    refine ⟨fun σ2 H2 => ∃ O2 G2 ρ2, Hold c T O2 G2 σ2 H2 ρ2 ∧ Same G1 G2 ∧ WtS c T W O2 G2 σ2 H2 (forItems tt m (items.drop (i + 1)) ρ2) E,
      fun σ2 H2 ⟨O2, G2, ρ2, a, b, c⟩ => ⟨items.length - (i + 1), by omega, rfl, hlt, O2, G2, ρ2, a, b, c⟩, ?_⟩
    intro x H2 y2
    obtain ⟨d, G2, hid, tn2, rep2⟩ := io.yld G' H' i x H2 sg hold'.sub hold'.ntb hlt y2
    have hdd : d = items[i] := by rw [List.getElem?_eq_getElem hlt] at hid; exact (Option.some.inj hid).symm
    subst hdd
    have hold2 := hold'.trn tn2
    cases q1 : assignT tt items[i] ρ' with
    | none => rw [q1] at h'; exact h'.elim
    | some ρ2 =>
    rw [q1] at h'
    simp only at h'
    have h2 := WtS.later (O1 := O') (σ1 := σ') (fun _ z => .inl z) tn2.tr h'
    refine ⟨O', G2, ρ', _, hold2, rep2, ρ2, q1, fun σ3 _ _ hold3 => ⟨O', G2, ρ2, hold3, ?_⟩⟩
    cases q2 : m ρ2 with
    | bad => rw [q2] at h2; exact h2
    | nx ρ3 =>
      rw [q2] at h2
      exact fun O4 G4 σ4 H4 ho tr4 hd4 => ⟨O4, G4, ρ3, hd4, (sg.trans tn2.g).trans tr4.g, WtS.later ho tr4 h2⟩
    | ct ρ3 =>
      rw [q2] at h2
      exact fun O4 G4 σ4 H4 ho tr4 hd4 => ⟨O4, G4, ρ3, hd4, (sg.trans tn2.g).trans tr4.g, WtS.later ho tr4 h2⟩
    | bk ρ3 => rw [q2] at h2; exact h2
    | rt r ρ3 => rw [q2] at h2; exact h2
    | exc e ρ3 => rw [q2] at h2; exact h2
  · left
    have hi' : i = items.length := by omega
    subst hi'
    rw [List.drop_length] at h'
    exact ⟨io.stop G' H' _ sg hold'.sub (Nat.le_refl _), h' O' G' σ' H' (fun _ z => .inl z) .refl hold'⟩
theorem ps_forD {tg iter : Expr} {it : M (List D)} {tt : Tgt} (hp : PassesOwn (model X.prog X.w) X.A X.env X.xe) (hc : X.calm = true) (hi : PI X tg iter (dI (cnOf X) T W it)) (hg : PG X tg (dG (cnOf X) T tt)) (hb : PSs X sts (dS (cnOf X) T W m))
    (hs : ∀ x, foldedSetIterable iter X.env x = pure x := by intro _; rfl) : PS X (.For tg iter sts [] pos) (dS (cnOf X) T W (mFor it tt m)) := impPS (ps_for hp hc hi hg hb hs) fun E σ H h => imp_for h
theorem imp_while {c : Cn} {E : Ends} {σ : St} {H : Hp} (h : dS c T W (mWhile t m) E σ H) : tWhile (dB c T W t) (dS c T W m) E σ H := by
  obtain ⟨O, G, ρ, hold, h⟩ := h
  have hx : ∃ k, whileN t m k ρ ≠ .bad := by
    unfold mWhile at h
    by_cases hx : ∃ k, whileN t m k ρ ≠ .bad
    · exact hx
    · rw [dif_neg hx] at h; exact h.elim
  obtain ⟨k0, hk0⟩ := hx
  rw [mWhile_eq hk0] at h
  refine ⟨fun k σ' H' => ∃ O' G' ρ', Hold c T O' G' σ' H' ρ' ∧ WtS c T W O' G' σ' H' (whileN t m k ρ') E, ⟨k0, O, G, ρ, hold, h⟩, ?_⟩
  rintro k σ' H' ⟨O', G', ρ', hold', h'⟩
  cases k with
  | zero => exact h'.elim
  | succ k =>
    refine ⟨O', G', ρ', hold', ?_⟩
    unfold whileN at h'
    cases q : t ρ' with
    | bad => rw [q] at h'; exact h'
    | exc x ρ1 => rw [q] at h'; exact fun G1 H1 tr hd => h' O' G1 σ' H1 (fun _ z => .inl z) tr hd
    | ok x ρ1 =>
      rw [q] at h'
      simp only [Res.out_ok] at h'
      intro G1 H1 t1 hold1
      have h1 := WtS.later (O1 := O') (σ1 := σ') (fun _ z => .inl z) t1 h'
      cases x with
      | false => exact h1 O' G1 σ' H1 (fun _ z => .inl z) .refl hold1
      | true =>
        rw [if_pos rfl]
        simp only [if_true] at h1
        refine ⟨fun σ2 H2 => ∃ O2 G2 ρ2, Hold c T O2 G2 σ2 H2 ρ2 ∧ WtS c T W O2 G2 σ2 H2 (whileN t m k ρ2) E, fun σ2 H2 ⟨O2, G2, ρ2, a, b⟩ => ⟨k, Nat.lt_succ_self _, O2, G2, ρ2, a, b⟩, O', G1, ρ1, hold1, ?_⟩
        cases q2 : m ρ1 with
        | bad => rw [q2] at h1; exact h1
        | nx ρ3 =>
          rw [q2] at h1
          exact fun O4 G4 σ4 H4 ho tr4 hd4 => ⟨O4, G4, ρ3, hd4, WtS.later ho tr4 h1⟩
        | ct ρ3 =>
          rw [q2] at h1
          exact fun O4 G4 σ4 H4 ho tr4 hd4 => ⟨O4, G4, ρ3, hd4, WtS.later ho tr4 h1⟩
        | bk ρ3 => rw [q2] at h1; exact h1
        | rt r ρ3 => rw [q2] at h1; exact h1
        | exc e ρ3 => rw [q2] at h1; exact h1
theorem ps_whileD (hp : PassesOwn (model X.prog X.w) X.A X.env X.xe) (hc : PT X e (dB (cnOf X) T W t)) (hb : PSs X sts (dS (cnOf X) T W m)) : PS X (.While e sts [] pos) (dS (cnOf X) T W (mWhile t m)) := impPS (ps_while hp hc hb) fun E σ H h => imp_while h
end
end Sd
set_option Elab.async false
set_option linter.all false
set_option maxRecDepth 100000
set_option maxHeartbeats 4000000
set_option autoImplicit false
/-! Sd: defs and their calls; methods of lists. -/
namespace Sd
open PySem PySem.Spec PyProof.Rows L2 C8

inductive FR where
  | ok (r : Sl)
  | exc (c : Str)
  | bad
abbrev Fn := List D → FR
/-- with the first parameter lent: what comes out, what the lent one then is -/
inductive FL where
  | ok (r s : Sl)
  | exc (c : Str)
  | bad
abbrev FnL := Ob → List D → FL
def O0 : Addr → Prop := fun _ => False
def O1 (a : Addr) : Addr → Prop := fun x => x = a
/-- the promise of a def that keeps what it is given -/
def dSp (c : Cn) (tabs : List Addr) (n : Nat) (F : Fn) : Sp := fun vs H Q _ => vs.length = n ∧ ∃ G ds, Hold c ⟨tabs, []⟩ O0 G [] H [] ∧ Reps c G vs ds ∧ match F ds with
  | .ok r => ∀ v G' H', Tr O0 G H G' H' → Hold c ⟨tabs, []⟩ O0 G' [] H' [] → RepR c H G' H' v r → Q v H'
  | _ => False
def dSpL (c : Cn) (tabs : List Addr) (n : Nat) (F : FnL) : Sp := fun vs H Q _ => vs.length = n + 1 ∧ ∃ a ws G o ds, vs = .ref a :: ws ∧ Hold c ⟨tabs, [(0, a)]⟩ (O1 a) G [some (.ref a)] H [some (.own o)] ∧ Reps c G ws ds ∧ match F o ds with
  | .ok r s => ∀ v G' H', Tr (O1 a) G H G' H' → Hold c ⟨tabs, [(0, a)]⟩ (O1 a) G' [some (.ref a)] H' [some s] → RepR c H G' H' v r → Q v H'
  | _ => False
/-- a body as a function -/
def ofBody (k : Nat) (m : MS) : Fn := fun ds => match m (ds.map (fun d => some (.val d)) ++ List.replicate k none) with
  | .nx _ => .ok (.val .none)
  | .rt r _ => .ok r
  | .exc c _ => .exc c
  | _ => .bad
def lentOf (ρ : Ev) (r : Sl) : FL := match ρ[0]? with
  | some (some s) => .ok r s
  | _ => .bad
def ofBodyL (k : Nat) (m : MS) : FnL := fun o ds => match m (some (.own o) :: (ds.map (fun d => some (.val d)) ++ List.replicate k none)) with
  | .nx ρ => lentOf ρ (.val .none)
  | .rt r ρ => lentOf ρ r
  | .exc c _ => .exc c
  | _ => .bad

section
variable {c : Cn} {T : Fx} {O : Addr → Prop} {G H G' H' : Hp} {σ : St} {ρ : Ev}
theorem Hold.base (h : Hold c T O G σ H ρ) : Hold c ⟨T.tabs, []⟩ O0 G [] H [] :=
  ⟨h.sub, h.ntb, fun _ z => z.elim, h.tab, fun _ z => absurd z (by simp), rfl, fun i s z => by simp at z, fun i j o o' a _ z => by simp at z⟩
/-- the slots behind a call -/
theorem Hold.call (h : Hold c T O G σ H ρ) (t : Tr O0 G H G' H') (b : Hold c ⟨T.tabs, []⟩ O0 G' [] H' []) : Hold c T O G' σ H' ρ where
  sub := b.sub
  ntb := b.ntb
  oin := fun a ho e => h.oin a ho (t.d a e)
  tab := b.tab
  lnt := h.lnt
  len := h.len
  slot := fun i s hi => by
    obtain ⟨v, e, q⟩ := h.slot i s hi
    refine ⟨v, e, ?_⟩
    cases s with
    | val d => exact Rep.mono t.g q
    | own o =>
      obtain ⟨a, rfl, ho, hg, q⟩ := q
      obtain ⟨u, hu, ht, _⟩ := q.there
      refine ⟨a, rfl, ho, ?_, q.mono t.g ((t.k a u hu (fun z => z) ht).trans hu.symm)⟩
      cases z : G' a with
      | none => rfl
      | some w =>
        rcases t.n a w z with y | y | y
        · rw [hg] at y; cases y
        · rw [hu] at y; cases y
        · exact y.elim
  apart := h.apart
/-- .. behind a call that was lent slot j -/
theorem Hold.callL {j : Nat} {a : Addr} {o : Ob} {s : Sl} (h : Hold c T O G σ H ρ) (hj : ρ[j]? = some (some (.own o))) (ha : σ[j]? = some (some (.ref a))) (t : Tr (O1 a) G H G' H') (b : Hold c ⟨T.tabs, [(0, a)]⟩ (O1 a) G' [some (.ref a)] H' [some s]) : Hold c T O G' σ H' (ρ.set j (some s)) := by
  have hO : O a := by
    obtain ⟨a', e1, h1, _⟩ := h.at_own hj
    rw [ha] at e1; cases e1
    exact h1
  refine ⟨b.sub, b.ntb, fun x ho e => h.oin x ho (t.d x e), b.tab, h.lnt, by rw [List.length_set]; exact h.len, fun i s' hi => ?_, fun i l o1 o2 x hil hi hl hx hx2 => ?_⟩
  · rcases set_some_of hi with ⟨rfl, hs⟩ | ⟨hne, hi⟩
    · cases hs
      obtain ⟨v, e, q⟩ := b.slot 0 s rfl
      cases e
      refine ⟨_, ha, ?_⟩
      cases s with
      | val d => exact q
      | own o' => obtain ⟨a', e1, h1, h2⟩ := q; cases e1; exact ⟨a, rfl, hO, h2⟩
    · obtain ⟨v, e, q⟩ := h.slot i s' hi
      refine ⟨v, e, ?_⟩
      cases s' with
      | val d => exact Rep.mono t.g q
      | own o' =>
        obtain ⟨a', rfl, ho, hg, q⟩ := q
        obtain ⟨u, hu, ht, _⟩ := q.there
        have hna : ¬ O1 a a' := fun z => by
          have z : a' = a := z
          subst z
          exact h.apart j i o o' a' (Ne.symm hne) hj hi ha e
        refine ⟨a', rfl, ho, ?_, q.mono t.g ((t.k a' u hu hna ht).trans hu.symm)⟩
        cases z : G' a' with
        | none => rfl
        | some w =>
          rcases t.n a' w z with y | y | y
          · rw [hg] at y; cases y
          · rw [hu] at y; cases y
          · exact (hna y).elim
  · rcases set_some_of hi with ⟨rfl, hs⟩ | ⟨hne, hi⟩
    · rcases set_some_of hl with ⟨rfl, hs2⟩ | ⟨hne2, hl⟩
      · exact hil rfl
      · exact h.apart i l o o2 x hil hj hl hx hx2
    · rcases set_some_of hl with ⟨rfl, hs2⟩ | ⟨hne2, hl⟩
      · exact h.apart i l o1 o x hil ‹ρ[i]? = some (some (Sl.own o1))› hj hx hx2
      · exact h.apart i l o1 o2 x hil hi hl hx hx2
end
theorem slots_of {c : Cn} {G : Hp} {k : Nat} : ∀ {vs : List V} {ds : List D}, Reps c G vs ds → ∀ (i : Nat) (s : Sl), (ds.map (fun d => some (Sl.val d)) ++ List.replicate k none)[i]? = some (some s) → ∃ d v, s = .val d ∧ (vs.map some ++ List.replicate k (none : Option V))[i]? = some (some v) ∧ Rep c G v d
  | _, _, .nil, i, s, h => by
    simp only [List.map_nil, List.nil_append] at h
    have := List.getElem?_eq_some_iff.mp h
    obtain ⟨h1, h2⟩ := this
    simp at h2
  | _, _, .cons (v := v) (d := d) r t, 0, s, h => by
    simp only [List.map_cons, List.cons_append, List.getElem?_cons_zero] at h
    cases h
    exact ⟨d, v, rfl, rfl, r⟩
  | _, _, .cons r t, i + 1, s, h => by
    simp only [List.map_cons, List.cons_append, List.getElem?_cons_succ] at h ⊢
    exact slots_of t i s h
section
variable {P : Program} {w : World} {K : PySem.W.Frag} {mg : Str → Option Value} {base : Heap} {tabs : List Addr} {W : WX}
/-- a def by its body's semantics -/
theorem enter {N ps : List Str} {m : MS} {F : Fn} {vs : List V} {H : Hp} {Q : VK} {E : XK} (hF : F = ofBody (N.length - ps.length) m) (h : dSp ⟨P, w, K⟩ tabs ps.length F vs H Q E) :
    dS ⟨P, w, K⟩ ⟨tabs, []⟩ W0 m { nx := fun _ H' => Q .non H', rt := Q } (L2.start N vs) H := by
  obtain ⟨hl, G, ds, hold, rs, h⟩ := h
  have hlen : vs.length = ps.length := hl
  refine ⟨O0, G, ds.map (fun d => some (.val d)) ++ List.replicate (N.length - ps.length) none, ?_, ?_⟩
  · refine ⟨hold.sub, hold.ntb, fun _ z => z.elim, hold.tab, fun _ z => absurd z (by simp), ?_, fun i sl hi => ?_, fun i j o o' a _ hi => ?_⟩
    · unfold L2.start
      simp only [List.length_append, List.length_map, List.length_replicate, ← rs.length, hlen]
    · obtain ⟨d, v, rfl, e, r⟩ := slots_of rs i sl hi
      refine ⟨v, ?_, r⟩
      unfold L2.start
      rw [hlen]
      exact e
    · obtain ⟨d, v, e, _⟩ := slots_of rs i _ hi
      cases e
  · rw [hF] at h
    unfold ofBody at h
    cases q : m (ds.map (fun d => some (.val d)) ++ List.replicate (N.length - ps.length) none) with
    | bad => rw [q] at h; exact h.elim
    | bk ρ => rw [q] at h; exact h.elim
    | ct ρ => rw [q] at h; exact h.elim
    | exc e ρ => rw [q] at h; exact h.elim
    | nx ρ =>
      rw [q] at h
      exact fun O' G' σ' H' ho tr hd => h .non G' H' tr hd.base .non
    | rt r ρ =>
      rw [q] at h
      refine fun v O' G' σ' H' ho tr hd rr => h v G' H' tr hd.base ?_
      cases r with
      | val d => exact rr
      | own o => obtain ⟨a, e, h1, h2⟩ := rr; exact ⟨a, e, h1.elim id fun z => z.2.elim, h2⟩
/-- .. that is lent its first parameter -/
theorem enterL {N ps : List Str} {n : Nat} {m : MS} {F : FnL} {vs : List V} {H : Hp} {Q : VK} {E : XK} (hn : ps.length = n + 1) (hF : F = ofBodyL (N.length - ps.length) m) (h : dSpL ⟨P, w, K⟩ tabs n F vs H Q E) :
    ∃ a, dS ⟨P, w, K⟩ ⟨tabs, [(0, a)]⟩ W0 m { nx := fun _ H' => Q .non H', rt := Q } (L2.start N vs) H := by
  obtain ⟨hl, a, ws, G, o, ds, rfl, hold, rs, h⟩ := h
  refine ⟨a, ?_⟩
  have hlen : ws.length + 1 = ps.length := by rw [hn]; exact hl
  have hst : L2.start N (.ref a :: ws) = some (.ref a) :: (ws.map some ++ List.replicate (N.length - ps.length) none) := by
    unfold L2.start
    rw [List.length_cons, hlen]
    rfl
  refine ⟨O1 a, G, some (.own o) :: (ds.map (fun d => some (.val d)) ++ List.replicate (N.length - ps.length) none), ?_, ?_⟩
  · rw [hst]
    refine ⟨hold.sub, hold.ntb, hold.oin, hold.tab, fun p hp => ?_, ?_, fun i sl hi => ?_, fun i j o1 o2 a' hij hi hj => ?_⟩
    · have : p = (0, a) := by simpa using hp
      subst this
      rfl
    · simp only [List.length_cons, List.length_append, List.length_map, List.length_replicate, ← rs.length]
    · cases i with
      | zero =>
        cases hi
        obtain ⟨v, e, q⟩ := hold.slot 0 _ rfl
        exact ⟨v, e, q⟩
      | succ i =>
        simp only [List.getElem?_cons_succ] at hi ⊢
        obtain ⟨d, v, rfl, e, r⟩ := slots_of rs i sl hi
        exact ⟨v, e, r⟩
    · exfalso
      cases i with
      | zero =>
        cases j with
        | zero => exact hij rfl
        | succ j =>
          simp only [List.getElem?_cons_succ] at hj
          obtain ⟨d, v, e, _⟩ := slots_of rs j _ hj
          cases e
      | succ i =>
        simp only [List.getElem?_cons_succ] at hi
        obtain ⟨d, v, e, _⟩ := slots_of rs i _ hi
        cases e
  · rw [hF] at h
    unfold ofBodyL at h
    have fin : ∀ {ρ : Ev} {r : Sl}, (match lentOf ρ r with
        | .ok r s => ∀ v G' H', Tr (O1 a) G H G' H' → Hold ⟨P, w, K⟩ ⟨tabs, [(0, a)]⟩ (O1 a) G' [some (.ref a)] H' [some s] → RepR ⟨P, w, K⟩ H G' H' v r → Q v H'
        | _ => False) → ∀ v O' G' σ' H', (∀ x, O' x → O1 a x ∨ H x = none) → Tr (O1 a) G H G' H' → Hold ⟨P, w, K⟩ ⟨tabs, [(0, a)]⟩ O' G' σ' H' ρ → RepR ⟨P, w, K⟩ H G' H' v r → Q v H' := by
      intro ρ r h v O' G' σ' H' ho tr hd rr
      unfold lentOf at h
      cases q : ρ[0]? with
      | none => rw [q] at h; exact h.elim
      | some os =>
      cases os with
      | none => rw [q] at h; exact h.elim
      | some sl =>
      rw [q] at h
      refine h v G' H' tr ?_ rr
      have l0 : σ'[0]? = some (some (.ref a)) := hd.lnt (0, a) (by simp)
      obtain ⟨v', e, q1⟩ := hd.slot 0 sl q
      rw [l0] at e; cases e
      refine ⟨hd.sub, hd.ntb, fun x hx e => ?_, hd.tab, fun p hp => ?_, rfl, fun i s hi => ?_, fun i j o1 o2 a' hij hi hj => ?_⟩
      · have hx : x = a := hx
        subst hx
        exact hold.oin x rfl (tr.d x e)
      · have : p = (0, a) := by simpa using hp
        subst this
        rfl
      · cases i with
        | zero =>
          cases hi
          refine ⟨_, rfl, ?_⟩
          cases sl with
          | val d => exact q1
          | own o' => obtain ⟨a', e1, _, h2⟩ := q1; cases e1; exact ⟨a, rfl, rfl, h2⟩
        | succ i => simp at hi
      · cases i with
        | zero => cases j with
          | zero => exact (hij rfl).elim
          | succ j => simp at hj
        | succ i => simp at hi
    cases q : m (some (.own o) :: (ds.map (fun d => some (.val d)) ++ List.replicate (N.length - ps.length) none)) with
    | bad => rw [q] at h; exact h.elim
    | bk ρ => rw [q] at h; exact h.elim
    | ct ρ => rw [q] at h; exact h.elim
    | exc e ρ => rw [q] at h; exact h.elim
    | nx ρ =>
      rw [q] at h
      exact fun O' G' σ' H' ho tr hd => fin h .non O' G' σ' H' ho tr hd .non
    | rt r ρ =>
      rw [q] at h
      refine fun v O' G' σ' H' ho tr hd rr => fin h v O' G' σ' H' ho tr hd ?_
      cases r with
      | val d => exact rr
      | own o' => obtain ⟨a', e, h1, h2⟩ := rr; exact ⟨a', e, h1.elim id fun z => absurd z.1 (by simp), h2⟩
/-- a def of the module with its code -/
structure DefC (K : PySem.W.Frag) (mg : Str → Option Value) (x : Str) (st : Stmt) (cdv : Value) (f : Addr) (fd : FuncData) : Prop where
  ex : ∃ (oc : Value) (od : Option Addr) (kV doc pm : Value) (an : Option Addr) (ct : Value) (osl : Array (Option Value)),
    fd = PySem.W.fnOf x x (fnArgs st) (fnBody st) (fnScope st) .none kV doc pm an cdv ct ∧ K.lookup f = some ⟨oc, od, .func fd, osl⟩ ∧ PySem.W.codeIn K cdv x = true
  mgf : mg x = some (.ref f)
  kp : PySem.W.keepIn K (.ref f) = true
theorem DefC.binds {x : Str} {st : Stmt} {cdv : Value} {f : Addr} {fd : FuncData} {ps : List Str} (D : DefC K mg x st cdv f fd)
    (h : ∀ (kV doc pm : Value) (an : Option Addr) (cdv ct : Value) (us : List Value), us.length = ps.length → bindArgs (PySem.W.fnOf x x (fnArgs st) (fnBody st) (fnScope st) .none kV doc pm an cdv ct) ⟨us, []⟩ = pure (ps.zip us)) : L2.Binds K fd ps [] := by
  obtain ⟨oc, od, kV, doc, pm, an, ct, osl, rfl, lk, hcd⟩ := D.ex
  exact .all (h kV doc pm an cdv ct)
/-- a def by its body's semantics -/
theorem cal_fn {x : Str} {st : Stmt} {cdv : Value} {f : Addr} {fd : FuncData} {N ps : List Str} {k : Nat} {m : MS} {F : Fn} (Fd : DefC K mg x st cdv f fd)
    (b : ∀ (kV doc pm : Value) (an : Option Addr) (cdv ct : Value) (us : List Value), us.length = ps.length → bindArgs (PySem.W.fnOf x x (fnArgs st) (fnBody st) (fnScope st) .none kV doc pm an cdv ct) ⟨us, []⟩ = pure (ps.zip us))
    (S : L2.FnScope N ps (fnScope st)) (hF : F = ofBody (N.length - ps.length) m)
    (hb : ∀ (A : Around) (outer : List PySem.Env) (s : Shared) (H : Hp) (E : XK), L2.Room k (A.deeper (envOfC x (fnScope st) s.heap.objs.size f cdv)) →
      PSs (cxOf C8.CX0 P w K mg base N x (fnScope st) f cdv A outer s H E).nox (fnBody st) (dS ⟨P, w, K⟩ ⟨tabs, []⟩ W0 m)) : Cal P w K mg base (k + 1) x (dSp ⟨P, w, K⟩ tabs ps.length F) [] := by
  have hbi := Fd.binds b
  obtain ⟨oc, od, kV, doc, pm, an, ct, osl, rfl, lk, hcd⟩ := Fd.ex
  refine ⟨f, _, ps, [], fn_of lk hcd S (fun vs H Q E h => h.1) fun A outer s H vs Q E hr h => ⟨_, (hb A outer s H E hr).nox, enter hF h⟩, Fd.mgf, Fd.kp, hbi, .nil⟩
theorem cal_fnL {x : Str} {st : Stmt} {cdv : Value} {f : Addr} {fd : FuncData} {N ps : List Str} {k n : Nat} {m : MS} {F : FnL} (Fd : DefC K mg x st cdv f fd)
    (b : ∀ (kV doc pm : Value) (an : Option Addr) (cdv ct : Value) (us : List Value), us.length = ps.length → bindArgs (PySem.W.fnOf x x (fnArgs st) (fnBody st) (fnScope st) .none kV doc pm an cdv ct) ⟨us, []⟩ = pure (ps.zip us))
    (S : L2.FnScope N ps (fnScope st)) (hn : ps.length = n + 1) (hF : F = ofBodyL (N.length - ps.length) m)
    (hb : ∀ (a : Addr) (A : Around) (outer : List PySem.Env) (s : Shared) (H : Hp) (E : XK), L2.Room k (A.deeper (envOfC x (fnScope st) s.heap.objs.size f cdv)) →
      PSs (cxOf C8.CX0 P w K mg base N x (fnScope st) f cdv A outer s H E).nox (fnBody st) (dS ⟨P, w, K⟩ ⟨tabs, [(0, a)]⟩ W0 m)) : Cal P w K mg base (k + 1) x (dSpL ⟨P, w, K⟩ tabs n F) [] := by
  have hbi := Fd.binds b
  obtain ⟨oc, od, kV, doc, pm, an, ct, osl, rfl, lk, hcd⟩ := Fd.ex
  refine ⟨f, _, ps, [], fn_of lk hcd S (fun vs H Q E h => by rw [hn]; exact h.1) fun A outer s H vs Q E hr h => ?_, Fd.mgf, Fd.kp, hbi, .nil⟩
  obtain ⟨a, q⟩ := enterL hn hF h
  exact ⟨_, (hb a A outer s H E hr).nox, q⟩
/-- a def that promises nothing -/
theorem cal_bad {x : Str} {st : Stmt} {cdv : Value} {f : Addr} {fd : FuncData} {ps : List Str} {k n : Nat} (Fd : DefC K mg x st cdv f fd) (hn : ps.length = n)
    (b : ∀ (kV doc pm : Value) (an : Option Addr) (cdv ct : Value) (us : List Value), us.length = ps.length → bindArgs (PySem.W.fnOf x x (fnArgs st) (fnBody st) (fnScope st) .none kV doc pm an cdv ct) ⟨us, []⟩ = pure (ps.zip us)) : Cal P w K mg base k x (dSp ⟨P, w, K⟩ tabs n fun _ => .bad) [] := by
  have hbi := Fd.binds b
  exact ⟨f, fd, ps, [], ⟨fun vs H Q E h => by rw [hn]; exact h.1, fun A outer s H args us vs Q E hr he hb hv h => by obtain ⟨_, _, _, _, _, h⟩ := h; exact h.elim⟩, Fd.mgf, Fd.kp, hbi, .nil⟩
end

/-! ### calls -/
def sCall (F : Fn) (as : M (List D)) : M Sl := fun ρ => (as ρ).bind fun ds ρ' => match F ds with
  | .ok r => .ok r ρ'
  | _ => .bad
def sCallL (F : FnL) (j : Nat) (as : M (List D)) : M Sl := fun ρ => match ρ[j]? with
  | some (some (.own _)) => (as ρ).bind fun ds ρ' => match ρ'[j]? with
    | some (some (.own o)) => match F o ds with
      | .ok r s => .ok r (ρ'.set j (some s))
      | _ => .bad
    | _ => .bad
  | _ => .bad
section
variable {X : Cx} {T : Fx} {W : WX} {e : Expr} {es : List Expr} {as : M (List D)} {x y : Str} {p p1 pos : Pos} {k j i n : Nat} {F : Fn} {FF : FnL}
theorem pe_fnD (c : Cal X.prog X.w X.K X.mg X.base k x (dSp (cnOf X) T.tabs n F) []) (hr : L2.Room j X.A) (hk : k ≤ j) (hg : Gl X x) (ha : PA X (e :: es) (dA (cnOf X) T W as)) (hn : (e :: es).length = n) (hlen : ∀ ρ ds ρ', as ρ = .ok ds ρ' → ds.length = n)
    (hst : (e :: es).all noStar = true) (hdb : (x == ("__debug__" : Str)) = false := by decide) : PE X (.Call (.Name x p) (e :: es) [] pos) (dT (cnOf X) T W (sCall F as)) := by
  have h2 : noStar e = true ∧ es.all noStar = true := by simpa using hst
  refine impPE (pe_c c hr hk hg ha hdb (starEach_cons h2.1) (any_star h2.2)) fun σ H Q h => ?_
  obtain ⟨O, G, ρ, hold, h⟩ := h
  refine ⟨O, G, ρ, hold, ?_⟩
  unfold sCall at h
  cases q : as ρ with
  | bad => rw [q] at h; exact h
  | exc x ρ' => rw [q] at h; exact h
  | ok ds ρ1 =>
    rw [q] at h
    simp only [Res.bind_ok] at h
    intro vs G1 H1 t1 hold1 rs
    rw [List.append_nil]
    refine ⟨by rw [rs.length]; exact hlen _ _ _ q, G1, ds, hold1.base, rs, ?_⟩
    cases q2 : F ds with
    | bad => rw [q2] at h; exact h
    | exc c => rw [q2] at h; exact h
    | ok r =>
      rw [q2] at h
      exact fun v G2 H2 t2 hb rr => h v G2 H2 (t1.trans' (t2.wider fun _ z => z.elim)) (hold1.call t2 hb) (rr.back t1.d)
theorem pe_fn0D (c : Cal X.prog X.w X.K X.mg X.base k x (dSp (cnOf X) T.tabs 0 F) []) (hr : L2.Room j X.A) (hk : k ≤ j) (hg : Gl X x) (hdb : (x == ("__debug__" : Str)) = false := by decide) : PE X (.Call (.Name x p) [] [] pos) (dT (cnOf X) T W (sCall F aN)) := by
  obtain ⟨f, fd, ps, ds0, Fo, hm, kp, b, d⟩ := c.ex
  refine impPE (pe_call0 Fo (hr.mono hk) hg hm kp b d (C8.pass0 (E := C8.E0)) hdb) fun σ H Q h => ?_
  obtain ⟨O, G, ρ, hold, h⟩ := h
  unfold sCall aN at h
  simp only [Res.bind_ok] at h
  refine ⟨rfl, G, [], hold.base, .nil, ?_⟩
  cases q2 : F [] with
  | bad => rw [q2] at h; exact h
  | exc c => rw [q2] at h; exact h
  | ok r =>
    rw [q2] at h
    exact fun v G2 H2 t2 hb rr => h v G2 H2 (t2.wider fun _ z => z.elim) (hold.call t2 hb) rr
theorem pe_fnLD (c : Cal X.prog X.w X.K X.mg X.base k x (dSpL (cnOf X) T.tabs n FF) []) (hr : L2.Room j X.A) (hk : k ≤ j) (hg : Gl X x) (hv : PE X (.Name y p1) (tVar i)) (ha : PA X es (dA (cnOf X) T W as)) (hlen : ∀ ρ ds ρ', as ρ = .ok ds ρ' → ds.length = n)
    (hst : es.all noStar = true) (hdb : (x == ("__debug__" : Str)) = false := by decide) : PE X (.Call (.Name x p) (.Name y p1 :: es) [] pos) (dT (cnOf X) T W (sCallL FF i as)) := by
  refine impPE (pe_c c hr hk hg (pa_cons hv ha rfl) hdb rfl (any_star hst)) fun σ H Q h => ?_
  obtain ⟨O, G, ρ, hold, h⟩ := h
  unfold sCallL at h
  cases q0 : ρ[i]? with
  | none => rw [q0] at h; exact h.elim
  | some os =>
  cases os with
  | none => rw [q0] at h; exact h.elim
  | some sl =>
  cases sl with
  | val d => rw [q0] at h; exact h.elim
  | own o0 =>
  rw [q0] at h
  simp only at h
  obtain ⟨a, ea, _, _, _⟩ := hold.at_own q0
  refine ⟨.ref a, ea, O, G, ρ, hold, ?_⟩
  cases q : as ρ with
  | bad => rw [q] at h; exact h
  | exc x ρ' => rw [q] at h; exact h
  | ok ds ρ1 =>
    rw [q] at h
    simp only [Res.bind_ok] at h
    intro vs G1 H1 t1 hold1 rs
    cases q1 : ρ1[i]? with
    | none => rw [q1] at h; exact h.elim
    | some os =>
    cases os with
    | none => rw [q1] at h; exact h.elim
    | some sl =>
    cases sl with
    | val d => rw [q1] at h; exact h.elim
    | own o =>
    rw [q1] at h
    simp only at h
    obtain ⟨a', ea', hO, hg1, ob⟩ := hold1.at_own q1
    rw [ea] at ea'; cases ea'
    show dSpL _ _ _ _ ((V.ref a :: vs) ++ []) H1 Q C8.E0
    rw [List.append_nil]
    refine ⟨by rw [List.length_cons, rs.length, hlen _ _ _ q], a, vs, G1, o, ds, rfl, ?_, rs, ?_⟩
    · refine ⟨hold1.sub, hold1.ntb, fun x hx => ?_, hold1.tab, fun p hp => ?_, rfl, fun j s hj => ?_, fun j l o1 o2 a' hjl hj hl => ?_⟩
      · have hx : x = a := hx
        subst hx
        exact hold1.oin x hO
      · have : p = (0, a) := by simpa using hp
        subst this
        rfl
      · cases j with
        | zero => cases hj; exact ⟨_, rfl, a, rfl, rfl, hg1, ob⟩
        | succ j => simp at hj
      · cases j with
        | zero => cases l with
          | zero => exact (hjl rfl).elim
          | succ l => simp at hl
        | succ j => simp at hj
    · cases q2 : FF o ds with
      | bad => rw [q2] at h; exact h
      | exc c => rw [q2] at h; exact h
      | ok r s =>
        rw [q2] at h
        exact fun v G2 H2 t2 hb rr => h v G2 H2 (t1.trans' (t2.wider fun x z => by rw [show x = a from z]; exact hO)) (hold1.callL q1 ea t2 hb) (rr.back t1.d)
end
end Sd
set_option Elab.async false
set_option linter.all false
set_option maxRecDepth 100000
set_option maxHeartbeats 4000000
set_option autoImplicit false
/-! Sd: iterables. -/
namespace Sd
open PySem PySem.Spec PyProof.Rows L2
open RZ (ItzT pi_zipA)

section
variable {c : Cn} {G0 : Hp}
theorem io_list {a : Addr} {vs : List V} {ds : List D} (sq : SqL c.K G0 a vs) (rs : Reps c G0 vs ds) : IterOk c (Itl c.K a) G0 ds where
  go := fun G H i s1 s2 hi => by
    obtain ⟨v, e, _⟩ := rs.get i (List.getElem?_eq_getElem hi)
    exact ⟨vs, v, (s1.trans s2).seq sq, e⟩
  yld := fun G H i x H' s1 s2 nt hi' h => by
    obtain ⟨rfl, h⟩ := h
    have e := h vs ((s1.trans s2).seq sq)
    obtain ⟨d, e2, r⟩ := rs.getV i e
    exact ⟨d, G, e2, TrN.refl s2 nt, r.mono s1⟩
  stop := fun G H i s1 s2 hi => ⟨vs, (s1.trans s2).seq sq, by rw [rs.length]; exact hi⟩
theorem io_tup {a : Addr} {vs : List V} {ds : List D} (sq : SqT c.K G0 a vs) (rs : Reps c G0 vs ds) : IterOk c (Itt c.K a) G0 ds where
  go := fun G H i s1 s2 hi => by
    obtain ⟨v, e, _⟩ := rs.get i (List.getElem?_eq_getElem hi)
    exact ⟨vs, v, sqt_mono (s1.trans s2) sq, e⟩
  yld := fun G H i x H' s1 s2 nt hi' h => by
    obtain ⟨rfl, h⟩ := h
    have e := h vs (sqt_mono (s1.trans s2) sq)
    obtain ⟨d, e2, r⟩ := rs.getV i e
    exact ⟨d, G, e2, TrN.refl s2 nt, r.mono s1⟩
  stop := fun G H i s1 s2 hi => ⟨vs, sqt_mono (s1.trans s2) sq, by rw [rs.length]; exact hi⟩
def strItems (x : Str) : List D := x.cps.toList.map fun n => .str ⟨#[n]⟩
theorem io_str {x : Str} : IterOk c (Its x) G0 (strItems x) where
  go := fun G H i s1 s2 hi => by
    show i < x.cps.size
    simpa [strItems] using hi
  yld := fun G H i v H' s1 s2 nt hi' h => by
    obtain ⟨rfl, n, e, rfl⟩ := h
    refine ⟨.str ⟨#[n]⟩, G, ?_, TrN.refl s2 nt, .str _⟩
    unfold strItems
    rw [List.getElem?_map, Array.getElem?_toList, e]
    rfl
  stop := fun G H i s1 s2 hi => by
    show x.cps.size ≤ i
    simpa [strItems] using hi
def rangeD (lo : Int) (n : Nat) : List D := (List.range n).map fun (i : Nat) => .int (lo + (i : Int))
theorem rangeD_length (lo : Int) (n : Nat) : (rangeD lo n).length = n := by simp [rangeD]
theorem rangeD_get {lo : Int} {n i : Nat} (h : i < n) : (rangeD lo n)[i]? = some (.int (lo + (i : Int))) := by simp [rangeD, h]
theorem io_range {lo : Int} {n : Nat} : IterOk c (Itr lo n) G0 (rangeD lo n) where
  go := fun G H i s1 s2 hi => by
    rw [rangeD_length] at hi
    exact hi
  yld := fun G H i v H' s1 s2 nt hi h => by
    obtain ⟨rfl, rfl⟩ := h
    rw [rangeD_length] at hi
    exact ⟨_, G, rangeD_get hi, TrN.refl s2 nt, .int _⟩
  stop := fun G H i s1 s2 hi => by
    rw [rangeD_length] at hi
    exact hi
def range3D (lo st : Int) (n : Nat) : List D := (List.range n).map fun (i : Nat) => .int (lo + (i : Int) * st)
theorem io_range3 {lo st : Int} {n : Nat} : IterOk c (Itc lo st n) G0 (range3D lo st n) where
  go := fun G H i s1 s2 hi => by
    rw [show (range3D lo st n).length = n by simp [range3D]] at hi
    exact hi
  yld := fun G H i v H' s1 s2 nt hi h => by
    obtain ⟨rfl, rfl⟩ := h
    rw [show (range3D lo st n).length = n by simp [range3D]] at hi
    exact ⟨_, G, by simp [range3D, hi], TrN.refl s2 nt, .int _⟩
  stop := fun G H i s1 s2 hi => by
    rw [show (range3D lo st n).length = n by simp [range3D]] at hi
    exact hi
def zipD (xs ys : List D) : List D := List.zipWith (fun x y => .tuple [x, y]) xs ys
theorem zipD_length (xs ys : List D) : (zipD xs ys).length = min xs.length ys.length := by simp [zipD]
theorem zipD_get {xs ys : List D} {i : Nat} {x y : D} (h1 : xs[i]? = some x) (h2 : ys[i]? = some y) : (zipD xs ys)[i]? = some (.tuple [x, y]) := by
  unfold zipD
  rw [List.getElem?_zipWith, h1, h2]
theorem yld_pair {G H : Hp} {Tp : Addr} {x y : V} {d e : D} (s2 : Same G H) (nt : ∀ a ps, G a ≠ some (.tbl ps)) (hT : H Tp = none) (r1 : Rep c G x d) (r2 : Rep c G y e) : ∃ G', TrN G H G' (upd H Tp (.tup [x, y])) ∧ Rep c G' (.ref Tp) (.tuple [d, e]) := by
  have tn := TrN.new (o := .tup [x, y]) s2 nt hT (fun ps z => by cases z)
  exact ⟨_, tn, .tup (.inl (.inl upd_same)) (.cons (r1.mono tn.g) (.cons (r2.mono tn.g) .nil))⟩
theorem io_zip {a b : Addr} {vs ws : List V} {ds es : List D} (sq : SqL c.K G0 a vs) (rs : Reps c G0 vs ds) (sq2 : SqL c.K G0 b ws) (rs2 : Reps c G0 ws es) : IterOk c (Itz c.K a b) G0 (zipD ds es) where
  go := fun G H i s1 s2 hi => by
    rw [zipD_length] at hi
    obtain ⟨v, e, _⟩ := rs.get i (List.getElem?_eq_getElem (show i < ds.length by omega))
    obtain ⟨w, e2, _⟩ := rs2.get i (List.getElem?_eq_getElem (show i < es.length by omega))
    exact ⟨vs, ws, v, w, (s1.trans s2).seq sq, (s1.trans s2).seq sq2, e, e2⟩
  yld := fun G H i x H' s1 s2 nt hi h => by
    obtain ⟨Tp, y, z, rfl, hT, rfl, h1, h2⟩ := h
    obtain ⟨d, e1, r1⟩ := rs.getV i (h1 vs ((s1.trans s2).seq sq))
    obtain ⟨e, e2, r2⟩ := rs2.getV i (h2 ws ((s1.trans s2).seq sq2))
    obtain ⟨G', tn, r⟩ := yld_pair s2 nt hT (r1.mono s1) (r2.mono s1)
    exact ⟨_, G', zipD_get e1 e2, tn, r⟩
  stop := fun G H i s1 s2 hi => by
    rw [zipD_length, ← rs.length, ← rs2.length] at hi
    exact ⟨vs, ws, (s1.trans s2).seq sq, (s1.trans s2).seq sq2, by omega⟩
theorem io_zipT {a b : Addr} {vs ws : List V} {ds es : List D} (sq : SqT c.K G0 a vs) (rs : Reps c G0 vs ds) (sq2 : SqT c.K G0 b ws) (rs2 : Reps c G0 ws es) : IterOk c (ItzT c.K a b) G0 (zipD ds es) where
  go := fun G H i s1 s2 hi => by
    rw [zipD_length] at hi
    obtain ⟨v, e, _⟩ := rs.get i (List.getElem?_eq_getElem (show i < ds.length by omega))
    obtain ⟨w, e2, _⟩ := rs2.get i (List.getElem?_eq_getElem (show i < es.length by omega))
    exact ⟨vs, ws, v, w, sqt_mono (s1.trans s2) sq, sqt_mono (s1.trans s2) sq2, e, e2⟩
  yld := fun G H i x H' s1 s2 nt hi h => by
    obtain ⟨Tp, y, z, rfl, hT, rfl, h1, h2⟩ := h
    obtain ⟨d, e1, r1⟩ := rs.getV i (h1 vs (sqt_mono (s1.trans s2) sq))
    obtain ⟨e, e2, r2⟩ := rs2.getV i (h2 ws (sqt_mono (s1.trans s2) sq2))
    obtain ⟨G', tn, r⟩ := yld_pair s2 nt hT (r1.mono s1) (r2.mono s1)
    exact ⟨_, G', zipD_get e1 e2, tn, r⟩
  stop := fun G H i s1 s2 hi => by
    rw [zipD_length, ← rs.length, ← rs2.length] at hi
    exact ⟨vs, ws, sqt_mono (s1.trans s2) sq, sqt_mono (s1.trans s2) sq2, by omega⟩
def enumD (xs : List D) : List D := xs.zipIdx.map fun p => .tuple [.int (p.2 : Int), p.1]
theorem io_enum {a : Addr} {vs : List V} {ds : List D} (sq : SqL c.K G0 a vs) (rs : Reps c G0 vs ds) : IterOk c (Ite c.K a) G0 (enumD ds) where
  go := fun G H i s1 s2 hi => by
    rw [show (enumD ds).length = ds.length by simp [enumD]] at hi
    obtain ⟨v, e, _⟩ := rs.get i (List.getElem?_eq_getElem hi)
    exact ⟨vs, v, (s1.trans s2).seq sq, e⟩
  yld := fun G H i x H' s1 s2 nt hi h => by
    obtain ⟨Tp, y, rfl, hT, rfl, h1⟩ := h
    obtain ⟨d, e1, r1⟩ := rs.getV i (h1 vs ((s1.trans s2).seq sq))
    obtain ⟨G', tn, r⟩ := yld_pair s2 nt hT (Rep.int (i : Int)) (r1.mono s1)
    exact ⟨_, G', by simp [enumD, e1], tn, r⟩
  stop := fun G H i s1 s2 hi => by
    rw [show (enumD ds).length = ds.length by simp [enumD], ← rs.length] at hi
    exact ⟨vs, (s1.trans s2).seq sq, hi⟩
end

/-! ### expressions that are gone through -/
def iterD : D → Option (List D)
  | .list xs => some xs
  | .tuple xs => some xs
  | .str x => some (strItems x)
  | _ => none
def sIt (f : M Sl) : M (List D) := fun ρ => (f ρ).bind fun r ρ' => match iterD r.frz with
  | some xs => .ok xs ρ'
  | none => .bad
def range1Of : List D → Option (List D)
  | [.int j] => if -(2 ^ 62) ≤ j ∧ j < 2 ^ 62 then some (rangeD 0 j.toNat) else none
  | _ => none
def range2Of : List D → Option (List D)
  | [.int i, .int j] => if -(2 ^ 62) ≤ i ∧ i < 2 ^ 62 ∧ -(2 ^ 62) ≤ j ∧ j < 2 ^ 62 then some (rangeD i (j - i).toNat) else none
  | _ => none
def sRange1 (as : M (List D)) : M (List D) := fun ρ => (as ρ).bind fun ds ρ' => Res.ofO (range1Of ds) ρ'
def sRange2 (as : M (List D)) : M (List D) := fun ρ => (as ρ).bind fun ds ρ' => Res.ofO (range2Of ds) ρ'
def zipOf : List D → Option (List D)
  | [.list xs, .list ys] => some (zipD xs ys)
  | [.tuple xs, .tuple ys] => some (zipD xs ys)
  | _ => none
def sZip (as : M (List D)) : M (List D) := fun ρ => (as ρ).bind fun ds ρ' => Res.ofO (zipOf ds) ρ'
def enumOf : List D → Option (List D)
  | [.list xs] => some (enumD xs)
  | _ => none
def sEnum (as : M (List D)) : M (List D) := fun ρ => (as ρ).bind fun ds ρ' => Res.ofO (enumOf ds) ρ'
section
variable {X : Cx} {T : Fx} {W : WX} {e e2 tg : Expr} {es : List Expr} {f g : M Sl} {as : M (List D)} {p pos tpos : Pos} {elts : List Expr} {kk : Nat}
theorem pi_D (he : PE X e (dT (cnOf X) T W f)) : PI X tg e (dI (cnOf X) T W (sIt f)) := by
  refine ⟨fun pins s σ H R I h => ?_⟩
  obtain ⟨O, G, ρ, hold, h⟩ := h
  unfold sIt at h
  cases q : f ρ with
  | bad => rw [q] at h; exact h.elim
  | exc x ρ' =>
    rw [q] at h
    exact (pi_list (tg := tg) he).run pins s σ H R I ⟨O, G, ρ, hold, by rw [q]; exact h⟩
  | ok r ρ1 =>
    rw [q] at h
    simp only [Res.bind_ok] at h
    cases qd : r.frz with
    | list ds =>
      rw [qd] at h
      refine (pi_list (tg := tg) he).run pins s σ H R I ⟨O, G, ρ, hold, ?_⟩
      rw [q]
      intro v G1 H1 t1 hold1 rr
      obtain ⟨G2, s2, t2, hold2, r2⟩ := hold1.frzR hold.oin t1 rr
      rw [qd] at r2
      cases r2 with
      | lst sq rs => exact ⟨_, rfl, ⟨_, hold2.sub |> fun z => Same.seq z sq⟩, h _ G2 H1 t2 hold2 (io_list sq rs)⟩
    | tuple ds =>
      rw [qd] at h
      refine (pi_tup (tg := tg) he).run pins s σ H R I ⟨O, G, ρ, hold, ?_⟩
      rw [q]
      intro v G1 H1 t1 hold1 rr
      obtain ⟨G2, s2, t2, hold2, r2⟩ := hold1.frzR hold.oin t1 rr
      rw [qd] at r2
      cases r2 with
      | tup sq rs => exact ⟨_, rfl, ⟨_, sqt_mono hold2.sub sq⟩, h _ G2 H1 t2 hold2 (io_tup sq rs)⟩
    | str x =>
      rw [qd] at h
      refine (pi_str (tg := tg) he).run pins s σ H R I ⟨O, G, ρ, hold, ?_⟩
      rw [q]
      intro v G1 H1 t1 hold1 rr
      obtain ⟨G2, s2, t2, hold2, r2⟩ := hold1.frzR hold.oin t1 rr
      rw [qd] at r2
      cases r2
      exact ⟨_, rfl, h _ G2 H1 t2 hold2 io_str⟩
    | _ => rw [qd] at h; exact h.elim
theorem imp_as {c : Cn} {σ : St} {H : Hp} {F : List D → Option (List D)} {R : It → Hp → Prop} {K : List V → Hp → Prop} (h : dI c T W (fun ρ => (as ρ).bind fun ds ρ' => Res.ofO (F ds) ρ') σ H R)
    (k : ∀ G vs ds items H1, F ds = some items → Reps c G vs ds → Same G H1 → (∀ J, IterOk c J G items → R J H1) → K vs H1) : dA c T W as σ H K := by
  obtain ⟨O, G, ρ, hold, h⟩ := h
  dsimp only at h
  refine ⟨O, G, ρ, hold, ?_⟩
  cases q : as ρ with
  | bad => rw [q] at h; exact h.elim
  | exc x ρ' => rw [q] at h; exact h
  | ok ds ρ1 =>
    rw [q] at h
    simp only [Res.bind_ok] at h
    intro vs G1 H1 t1 hold1 rs
    cases q2 : F ds with
    | none => rw [q2] at h; exact h.elim
    | some items =>
      rw [q2] at h
      exact k G1 vs ds items H1 q2 rs hold1.sub fun J io => h J G1 H1 t1 hold1 io
theorem pi_range1D {a : Expr} (hg : Gl X "range") (hm : X.mg "range" = none) (ha : PA X [a] (dA (cnOf X) T W as)) (hs : noStar a = true) : PI X tg (.Call (.Name "range" p) [a] [] pos) (dI (cnOf X) T W (sRange1 as)) :=
  impPI (pi_range1 hg hm ha (starEach_cons hs)) fun σ H R h => imp_as h fun G vs ds items H1 hF rs _ k => by
    unfold range1Of at hF
    split at hF
    · rename_i j
      split at hF
      · rename_i hz
        cases hF
        cases rs with
        | cons a b =>
          cases b; cases a
          exact ⟨j, rfl, hz.1, hz.2, k _ io_range⟩
      · cases hF
    · cases hF
theorem pi_range2D {a b : Expr} (hg : Gl X "range") (hm : X.mg "range" = none) (ha : PA X [a, b] (dA (cnOf X) T W as)) (hs : noStar a = true) (hs2 : noStar b = true) : PI X tg (.Call (.Name "range" p) [a, b] [] pos) (dI (cnOf X) T W (sRange2 as)) :=
  impPI (pi_range2 hg hm ha (by rw [starEach_cons hs, starEach_cons hs2]; rfl) (by rw [starEach_cons hs2]; rfl)) fun σ H R h => imp_as h fun G vs ds items H1 hF rs _ k => by
    unfold range2Of at hF
    split at hF
    · rename_i i j
      split at hF
      · rename_i hz
        cases hF
        cases rs with
        | cons a b =>
          cases b with
          | cons b c =>
            cases c; cases a; cases b
            exact ⟨i, j, rfl, hz, k _ io_range⟩
      · cases hF
    · cases hF
theorem pi_zipD (hg : Gl X "zip") (hm : X.mg "zip" = none) (ha : PA X [e, e2] (dA (cnOf X) T W as)) (hs : noStar e = true) (hs2 : noStar e2 = true) : PI X (.Tuple elts kk tpos) (.Call (.Name "zip" p) [e, e2] [] pos) (dI (cnOf X) T W (sZip as)) :=
  impPI (pi_zipA hg hm ha (starEach_cons hs) (any_star (es := [e2]) (by simp [hs2]))) fun σ H R h => imp_as h fun G vs ds items H1 hF rs sub k => by
    unfold zipOf at hF
    split at hF
    · cases hF
      cases rs with
      | cons a b =>
        cases b with
        | cons b c =>
          cases c
          cases a with
          | lst q1 r1 => cases b with
            | lst q2 r2 => exact ⟨_, _, _, _, rfl, .inl ⟨Same.seq sub q1, Same.seq sub q2, k _ (io_zip q1 r1 q2 r2)⟩⟩
    · cases hF
      cases rs with
      | cons a b =>
        cases b with
        | cons b c =>
          cases c
          cases a with
          | tup q1 r1 => cases b with
            | tup q2 r2 => exact ⟨_, _, _, _, rfl, .inr ⟨sqt_mono sub q1, sqt_mono sub q2, k _ (io_zipT q1 r1 q2 r2)⟩⟩
    · cases hF
theorem pi_enumD (hg : Gl X "enumerate") (hm : X.mg "enumerate" = none) (ha : PA X [e] (dA (cnOf X) T W as)) (hs : noStar e = true) : PI X (.Tuple elts kk tpos) (.Call (.Name "enumerate" p) [e] [] pos) (dI (cnOf X) T W (sEnum as)) :=
  impPI (pi_enum hg hm ha (starEach_cons hs)) fun σ H R h => imp_as h fun G vs ds items H1 hF rs sub k => by
    unfold enumOf at hF
    split at hF
    · cases hF
      cases rs with
      | cons a b =>
        cases b
        cases a with
        | lst q1 r1 => exact ⟨_, _, rfl, Same.seq sub q1, k _ (io_enum q1 r1)⟩
    · cases hF
/-! the items of a display are gone through as a list is -/
end

/-! ### methods of lists -/
abbrev LM := List D → List D → Option (D × List D)
def sLM (op : LM) (i : Nat) (as : M (List D)) : M Sl := fun ρ => match ρ[i]? with
  | some (some (.own (.lst _))) => (as ρ).bind fun ds ρ1 => match ρ1[i]? with
    | some (some (.own (.lst xs))) => match op xs ds with
      | some (r, ys) => .ok (.val r) (ρ1.set i (some (.own (.lst ys))))
      | none => .bad
    | _ => .bad
  | _ => .bad
def LMOk (c : Cn) (r : V → List V → Hp → VK → Prop) (op : LM) : Prop := ∀ (G H : Hp) (l : Addr) (vs ws : List V) (xs ds : List D) (res : D) (ys : List D) (Q : VK), Same G H → G l = none → H l = some (.lst vs) → Reps c G vs xs → Reps c G ws ds → op xs ds = some (res, ys) →
  (∀ v vs', Reps c G vs' ys → Rep c G v res → Q v (upd H l (.lst vs'))) → r (.ref l) ws H Q
theorem Hold.writeO {c : Cn} {T : Fx} {O : Addr → Prop} {G H : Hp} {σ : St} {ρ : Ev} {i : Nat} {a : Addr} {o o' : Ob} {u : HO} (h : Hold c T O G σ H ρ) (hi : ρ[i]? = some (some (.own o))) (ha : σ[i]? = some (some (.ref a))) (q : ObAt c G (upd H a u) a o') :
    Hold c T O G σ (upd H a u) (ρ.set i (some (.own o'))) ∧ Tr O G H G (upd H a u) := by
  obtain ⟨a', e1, hO, hg, q0⟩ := h.at_own hi
  rw [ha] at e1; cases e1
  obtain ⟨u0, hu0, ht0, _⟩ := q0.there
  refine ⟨⟨fun b v e => ?_, h.ntb, fun b hb e => ?_, fun p hp => ?_, h.lnt, by rw [List.length_set]; exact h.len, fun j s hj => ?_, fun j l o1 o2 b hjl hj hl hx hx2 => ?_⟩, Tr.write hO hu0 ht0⟩
  · rw [upd_ne (fun z => by rw [z, hg] at e; cases e)]
    exact h.sub b v e
  · by_cases z : b = a
    · rw [z, upd_same] at e; cases e
    · rw [upd_ne z] at e; exact h.oin b hb e
  · obtain ⟨ps, e, q⟩ := h.tab p hp
    exact ⟨ps, by rw [upd_ne (fun z => by rw [z, hu0] at e; exact ht0 ps (Option.some.inj e))]; exact e, q⟩
  · rcases set_some_of hj with ⟨rfl, hs⟩ | ⟨hne, hj⟩
    · cases hs
      exact ⟨_, ha, a, rfl, hO, hg, q⟩
    · obtain ⟨v, e, r⟩ := h.slot j s hj
      refine ⟨v, e, ?_⟩
      cases s with
      | val d => exact r
      | own o1 =>
        obtain ⟨b, rfl, h1, h2, r⟩ := r
        exact ⟨b, rfl, h1, h2, r.mono (fun _ _ z => z) (upd_ne fun z => by subst z; exact h.apart i j o o1 b (Ne.symm hne) hi hj ha e)⟩
  · rcases set_some_of hj with ⟨rfl, hs⟩ | ⟨hne, hj⟩
    · rcases set_some_of hl with ⟨rfl, hs2⟩ | ⟨hne2, hl⟩
      · exact hjl rfl
      · exact h.apart j l o o2 b hjl hi hl hx hx2
    · rcases set_some_of hl with ⟨rfl, hs2⟩ | ⟨hne2, hl⟩
      · exact h.apart j l o1 o b hjl ‹ρ[j]? = some (some (Sl.own o1))› hi hx hx2
      · exact h.apart j l o1 o2 b hjl hj hl hx hx2
theorem imp_lm {c : Cn} {T : Fx} {W : WX} {op : LM} {i : Nat} {as : M (List D)} {r : V → List V → Hp → VK → Prop} (hop : LMOk c r op) {σ : St} {H : Hp} {Q : VK} (h : dT c T W (sLM op i as) σ H Q) :
    tVar i σ H fun x H1 => tyV c.K "list" x H1 ∧ dA c T W as σ H1 fun xs H2 => r x xs H2 Q := by
  obtain ⟨O, G, ρ, hold, h⟩ := h
  unfold sLM at h
  cases q0 : ρ[i]? with
  | none => rw [q0] at h; exact h.elim
  | some os =>
  cases os with
  | none => rw [q0] at h; exact h.elim
  | some sl =>
  cases sl with
  | val d => rw [q0] at h; exact h.elim
  | own o0 =>
  cases o0 with
  | dct _ => rw [q0] at h; exact h.elim
  | lst x0 =>
  rw [q0] at h
  simp only at h
  obtain ⟨a, ea, _, _, v0, hv0, _⟩ := hold.at_own q0
  refine ⟨.ref a, ea, .inl ⟨rfl, _, .of hv0⟩, O, G, ρ, hold, ?_⟩
  cases q : as ρ with
  | bad => rw [q] at h; exact h
  | exc x ρ' => rw [q] at h; exact h
  | ok ds ρ1 =>
    rw [q] at h
    simp only [Res.bind_ok] at h
    intro ws G1 H1 t1 hold1 rs
    cases q1 : ρ1[i]? with
    | none => rw [q1] at h; exact h.elim
    | some os =>
    cases os with
    | none => rw [q1] at h; exact h.elim
    | some sl =>
    cases sl with
    | val d => rw [q1] at h; exact h.elim
    | own o =>
    cases o with
    | dct _ => rw [q1] at h; exact h.elim
    | lst xs =>
    rw [q1] at h
    simp only at h
    cases q2 : op xs ds with
    | none => rw [q2] at h; exact h.elim
    | some ry =>
    obtain ⟨res, ys⟩ := ry
    rw [q2] at h
    simp only at h
    obtain ⟨a', ea', hO, hg1, vs, hvs, rv⟩ := hold1.at_own q1
    rw [ea] at ea'; cases ea'
    refine hop G1 H1 a vs ws xs ds res ys Q hold1.sub hg1 hvs rv rs q2 fun v vs' rv' rr => ?_
    obtain ⟨h2, t2⟩ := hold1.writeO q1 ea (u := .lst vs') (o' := .lst ys) ⟨vs', upd_same, rv'⟩
    exact h v G1 _ (t1.trans' t2) h2 rr
def opAppend : LM := fun xs ds => match ds with
  | [d] => if xs.length < sizeLine then some (.none, xs ++ [d]) else none
  | _ => none
def opExtend : LM := fun xs ds => match ds with
  | [.list ys] => if xs.length + ys.length ≤ sizeLine then some (.none, xs ++ ys) else none
  | _ => none
def opPop : LM := fun xs ds => match ds with
  | [] => xs.getLast?.map fun d => (d, xs.dropLast)
  | _ => none
theorem lm_append {c : Cn} : LMOk c rAppend opAppend := by
  intro G H l vs ws xs ds res ys Q sub hg hv rv rw_ ho k
  unfold opAppend at ho
  split at ho
  · split at ho
    · rename_i hz
      cases ho
      cases rw_ with
      | cons a b => cases b; exact ⟨l, vs, _, rfl, rfl, hv, by rw [rv.length]; exact hz, k _ _ (rv.append (.cons a .nil)) .non⟩
    · cases ho
  · cases ho
theorem lm_pop {c : Cn} : LMOk c rPop opPop := by
  intro G H l vs ws xs ds res ys Q sub hg hv rv rw_ ho k
  unfold opPop at ho
  split at ho
  · cases rw_
    cases q : xs.getLast? with
    | none => rw [q] at ho; cases ho
    | some d =>
      rw [q] at ho
      cases ho
      rw [List.getLast?_eq_getElem?] at q
      obtain ⟨v, e, r⟩ := rv.get _ q
      exact ⟨l, vs, v, rfl, rfl, hv, by rw [rv.length]; exact e, k _ _ rv.dropLast r⟩
  · cases ho
section
variable {X : Cx} {T : Fx} {W : WX} {e : Expr} {es : List Expr} {as : M (List D)} {i : Nat} {y : Str} {p1 apos pos : Pos}
/-- list.extend(another list of any kind) -/
theorem list_extendW (l : Addr) (items : Array Value) (n : Nat) (b : Addr) (items2 : Array Value) (n2 : Nat) (sl2 : Array (Option Value)) (hc0 : ¬(!items.isEmpty && Builtin.List.listTooLong (items.size + items2.size)) = true) (hc1 : items.size ≤ sizeLine) (hs2 : items.size + items2.size ≤ sizeLine + 1) :
    Meets (Builtin.«list.extend» ⟨[.ref l, .ref b], []⟩) (fun _ R s => s.heap.get? l = some { cls := .type "list", dict := none, data := .seq items n, slots := #[] } ∧ s.heap.get? b = some { cls := .type "list", dict := none, data := .seq items2 n2, slots := sl2 } ∧ R (.ok (.ret Value.none)) { s with heap := s.heap.update l (Obj.mapSeq fun x => x ++ items2), toks := s.toks }) :=
  .of_wp fun prog w A R s h => by
    obtain ⟨hp, g, d, tk, os⟩ := s; obtain ⟨hl, hb, h⟩ := h; have f1 := AutoSeq1.idx_int; have f2 := AutoSeq1.sub_tuple_tuple; have f3 := AutoSeq1.sub_list_list; have f4 := AutoSeq1.sub_tuple_list; have f5 := AutoSeq1.sub_list_tuple;
    have hz' : (items ++ items2).size ≤ sizeLine + 1 := by rw [Array.size_append]; exact hs2
    wp_walk using (wpAny_updateSeq hl rfl (hz := hc1) (_hz' := hz')), wpAny_loadPart' hl, wpAny_loadPart' hb; exact ⟨_, rfl, h⟩
def rExtA (K : PySem.W.Frag) : V → List V → Hp → VK → Prop := fun x vs H Q => ∃ l b xs zs, x = .ref l ∧ vs = [.ref b] ∧ H l = some (.lst xs) ∧ SqL K H b zs ∧ xs.length + zs.length ≤ sizeLine ∧ Q .non (upd H l (.lst (xs ++ zs)))
theorem mt_extA : MtM X "list.extend" (rExtA X.K) := by
  intro pins s σ H x vs v us Q I rx rv h
  obtain ⟨l, b, xs, zs, rfl, rfl, hH, hB, hz, q⟩ := h
  cases rx
  obtain ⟨u, rfl, ru⟩ := rv.one
  cases ru
  obtain ⟨z, its, n, r, hl, e⟩ := I.lstM hH
  obtain ⟨its2, r2, ⟨⟨cls2, dd2, data2, sl2⟩, n2, e2, hc2, hdd2, hd2⟩, z2⟩ := I.list hB
  simp only at hc2 hdd2 hd2
  subst hc2 hdd2 hd2
  have hl2 := r2.length
  have hsz : its.toArray.size + its2.toArray.size ≤ sizeLine := by rw [List.size_toArray, List.size_toArray]; omega
  have hlong : ¬ (!its.toArray.isEmpty && Builtin.List.listTooLong (its.toArray.size + its2.toArray.size)) = true := by
    rw [notLongL hsz, Bool.and_false]
    exact Bool.false_ne_true
  refine call_meets F.slot_list_extend ⟨_, e, rfl⟩ F.entry_list_extend (F.args_list_extend_2 _ _)
    (list_extendW l its.toArray n b its2.toArray n2 sl2 hlong (by rw [List.size_toArray]; omega) (by omega)) ⟨e, e2, ?_⟩
  refine ⟨.non, _, I.lset (its' := its ++ its2) hH e (by simp) (r.append r2) ?_, rfl, q⟩
  rw [List.length_append]
  omega
theorem lm_extend {c : Cn} : LMOk c (rExtA c.K) opExtend := by
  intro G H l vs ws xs ds res ys Q sub hg hv rv rw_ ho k
  unfold opExtend at ho
  split at ho
  · split at ho
    · rename_i hz
      cases ho
      cases rw_ with
      | cons a b =>
        cases b
        cases a with
        | lst sq rs => exact ⟨l, _, vs, _, rfl, rfl, hv, Same.seq sub sq, by rw [rv.length, rs.length]; exact hz, k _ _ (rv.append rs) .non⟩
    · cases ho
  · cases ho
theorem few1 {e : Expr} {cpos : Pos} (hs : noStar e = true) : ((backTo cpos (starEach (e :: []) X.env)).all (fun x => !x.1) && (backToKw cpos (keywordEach [] X.env)).all (fun x => x.1.isSome)
      && decide ((e :: ([] : List Expr)).length + ([] : List Keyword).length + (if ([] : List Keyword).isEmpty then 0 else 1) < 30)) = true := by
  rw [starEach_cons hs]
  rfl
theorem pe_appendD (hv : PE X (.Name y p1) (tVar i)) (ha : PA X [e] (dA (cnOf X) T W as)) (hs : noStar e = true) (hline : (apos.endLine == pos.line) = true := by rfl) : PE X (.Call (.Attribute (.Name y p1) "append" apos) [e] [] pos) (dT (cnOf X) T W (sLM opAppend i as)) :=
  impPE (pe_bm PySem.F.plainAttrs_list PySem.F.slot_list_append PySem.F.type_list_append mt_append hv ha rfl (few1 hs) hline (starEach_cons hs) rfl) fun σ H Q h => imp_lm lm_append h
theorem pe_extendD (hv : PE X (.Name y p1) (tVar i)) (ha : PA X [e] (dA (cnOf X) T W as)) (hs : noStar e = true) (hline : (apos.endLine == pos.line) = true := by rfl) : PE X (.Call (.Attribute (.Name y p1) "extend" apos) [e] [] pos) (dT (cnOf X) T W (sLM opExtend i as)) :=
  impPE (pe_bm PySem.F.plainAttrs_list PySem.F.slot_list_extend PySem.F.type_list_extend mt_extA hv ha rfl (few1 hs) hline (starEach_cons hs) rfl) fun σ H Q h => imp_lm lm_extend h
theorem pe_popD (hv : PE X (.Name y p1) (tVar i)) (hline : (apos.endLine == pos.line) = true := by rfl) : PE X (.Call (.Attribute (.Name y p1) "pop" apos) [] [] pos) (dT (cnOf X) T W (sLM opPop i aN)) :=
  impPE (pe_bm0 PySem.F.plainAttrs_list PySem.F.slot_list_pop PySem.F.type_list_pop mt_pop hv rfl hline) fun σ H Q h => by
    obtain ⟨v, e, t, O, G, ρ, hold, k⟩ := imp_lm lm_pop h
    exact ⟨v, e, t, k [] G H .refl hold .nil⟩
end
end Sd
set_option Elab.async false
set_option linter.all false
set_option maxRecDepth 100000
set_option maxHeartbeats 4000000
set_option autoImplicit false
/-! Sd: dicts with tuple keys. -/
namespace Sd
open PySem PySem.Spec PyProof.Rows L2

/-! ### keys -/
mutual
def keyN : D → Option NestedKey
  | .none => some .none
  | .int i => some (.num i)
  | .str x => some (.text x)
  | .tuple xs => (keysN xs).map .tup
  | .bool _ => none
  | .list _ => none
  | .dict _ => none
def keysN : List D → Option (List NestedKey)
  | [] => some []
  | d :: ds => (keyN d).bind fun k => (keysN ds).map (k :: ·)
end
mutual
theorem keyN_data : ∀ (d : D) (k : NestedKey), keyN d = some k → k.data = d
  | .none, k, h => by simp only [keyN] at h; cases h; rfl
  | .int i, k, h => by simp only [keyN] at h; cases h; rfl
  | .str x, k, h => by simp only [keyN] at h; cases h; rfl
  | .tuple xs, k, h => by
    simp only [keyN] at h
    cases q : keysN xs with
    | none => rw [q] at h; cases h
    | some ks => rw [q] at h; cases h; simp only [NestedKey.data]; rw [keysN_data xs ks q]
  | .bool _, k, h => by simp only [keyN] at h; cases h
  | .list _, k, h => by simp only [keyN] at h; cases h
  | .dict _, k, h => by simp only [keyN] at h; cases h
theorem keysN_data : ∀ (ds : List D) (ks : List NestedKey), keysN ds = some ks → NestedKey.datas ks = ds
  | [], ks, h => by simp only [keysN] at h; cases h; rfl
  | d :: ds, ks, h => by
    simp only [keysN] at h
    cases q : keyN d with
    | none => rw [q] at h; cases h
    | some k =>
      rw [q] at h
      cases q2 : keysN ds with
      | none => rw [q2] at h; cases h
      | some ks' => rw [q2] at h; cases h; simp only [NestedKey.datas]; rw [keyN_data d k q, keysN_data ds ks' q2]
end
mutual
theorem eqv_key : ∀ a b : NestedKey, PyData.eqv a.data b.data = NestedKey.beq a b
  | .none, .none => by simp [NestedKey.data, PyData.eqv, NestedKey.beq]
  | .num a, .num b => by simp [NestedKey.data, PyData.eqv, NestedKey.beq]; rfl
  | .text a, .text b => by simp [NestedKey.data, PyData.eqv, NestedKey.beq]; rfl
  | .tup a, .tup b => by simp only [NestedKey.data, PyData.eqv, NestedKey.beq]; exact eqv_keys a b
  | .none, .num _ => by simp [NestedKey.data, PyData.eqv, NestedKey.beq]
  | .none, .text _ => by simp [NestedKey.data, PyData.eqv, NestedKey.beq]
  | .none, .tup _ => by simp [NestedKey.data, PyData.eqv, NestedKey.beq]
  | .num _, .none => by simp [NestedKey.data, PyData.eqv, NestedKey.beq]
  | .num _, .text _ => by simp [NestedKey.data, PyData.eqv, NestedKey.beq]
  | .num _, .tup _ => by simp [NestedKey.data, PyData.eqv, NestedKey.beq]
  | .text _, .none => by simp [NestedKey.data, PyData.eqv, NestedKey.beq]
  | .text _, .num _ => by simp [NestedKey.data, PyData.eqv, NestedKey.beq]
  | .text _, .tup _ => by simp [NestedKey.data, PyData.eqv, NestedKey.beq]
  | .tup _, .none => by simp [NestedKey.data, PyData.eqv, NestedKey.beq]
  | .tup _, .num _ => by simp [NestedKey.data, PyData.eqv, NestedKey.beq]
  | .tup _, .text _ => by simp [NestedKey.data, PyData.eqv, NestedKey.beq]
theorem eqv_keys : ∀ a b : List NestedKey, PyData.eqvAll (NestedKey.datas a) (NestedKey.datas b) = NestedKey.beqAll a b
  | [], [] => by simp [NestedKey.datas, PyData.eqvAll, NestedKey.beqAll]
  | a :: as, b :: bs => by simp only [NestedKey.datas, PyData.eqvAll, NestedKey.beqAll]; rw [eqv_key a b, eqv_keys as bs]
  | [], _ :: _ => by simp [NestedKey.datas, PyData.eqvAll, NestedKey.beqAll]
  | _ :: _, [] => by simp [NestedKey.datas, PyData.eqvAll, NestedKey.beqAll]
end
theorem eqv_dec (a b : NestedKey) : PyData.eqv a.data b.data = decide (a = b) := by rw [NestedKey.decide_eq, eqv_key]
section
variable {X : Cx} {pins : List (Addr × Obj)} {σ : St} {G H : Hp} {s : Shared}
mutual
theorem Rep.nested (I : Inv X pins σ H s) (sub : Same G H) : ∀ (k : NestedKey) (v : V) (u : Value), Rep (cnOf X) G v k.data → RelV v u → NestedIs s.heap k u
  | .none, _, _, h, r => by simp only [NestedKey.data] at h; cases h; cases r; exact .none
  | .num i, _, _, h, r => by simp only [NestedKey.data] at h; cases h; obtain ⟨t, rfl⟩ := r; exact .int i t
  | .text x, _, _, h, r => by simp only [NestedKey.data] at h; cases h; obtain ⟨t, rfl⟩ := r; exact .text x t
  | .tup ks, _, _, h, r => by
    simp only [NestedKey.data] at h
    cases h with
    | tup sq rs =>
      cases r
      obtain ⟨its, rv, ⟨o, ho, hc, n, hd⟩, _⟩ := I.tuple (sqt_mono sub sq)
      exact .tup ho hc hd (Rep.nestedAll I sub ks _ its rs rv)
theorem Rep.nestedAll (I : Inv X pins σ H s) (sub : Same G H) : ∀ (ks : List NestedKey) (vs : List V) (us : List Value), Reps (cnOf X) G vs (NestedKey.datas ks) → Vals vs us → NestedAll s.heap ks us
  | [], _, _, h, r => by simp only [NestedKey.datas] at h; cases h; cases r; exact .nil
  | k :: ks, _, _, h, r => by
    simp only [NestedKey.datas] at h
    cases h with
    | cons h1 h2 =>
      cases r with
      | cons r1 r2 => exact .cons (Rep.nested I sub k _ _ h1 r1) (Rep.nestedAll I sub ks _ _ h2 r2)
end
end

/-! ### dicts as data -/
def lookD (kvs : List (D × D)) (d : D) : Option D := (kvs.find? fun p => PyData.eqv p.1 d).map (·.2)
def storeD (kvs : List (D × D)) (d e : D) : List (D × D) := if (lookD kvs d).isSome = true then kvs.map fun p => if PyData.eqv p.1 d = true then (p.1, e) else p else kvs ++ [(d, e)]
/-- a key that is a tuple -/
def tupKey (d : D) : Option NestedKey := match keyN d with
  | some (.tup ks) => if (NestedKey.tup ks).depth ≤ 8 then some (.tup ks) else none
  | _ => none
theorem tupKey_some {d : D} {k : NestedKey} (h : tupKey d = some k) : (∃ ks, k = .tup ks) ∧ k.depth ≤ 8 ∧ k.data = d := by
  unfold tupKey at h
  split at h
  · rename_i ks q
    split at h
    · rename_i hz; cases h; exact ⟨⟨_, rfl⟩, hz, keyN_data _ _ q⟩
    · cases h
  · cases h
def isTup : D → Bool
  | .tuple _ => true
  | _ => false
def allTup (kvs : List (D × D)) : Bool := kvs.all fun p => isTup p.1
/-- entries with their values -/
abbrev PN : List (NestedKey × Addr × V) → List (NestedKey × Addr × Value) → Prop := Paired fun x y => x.1 = y.1 ∧ x.2.1 = y.2.1 ∧ RelV x.2.2 y.2.2
def NAt (c : Cn) (H : Hp) (a : Addr) (xs : List (NestedKey × Addr × V)) : Prop := H a = some (.ext (NDict c a xs)) ∨ (xs = [] ∧ Rd H a (.dK []))
section
variable {X : Cx} {pins : List (Addr × Obj)} {σ : St} {G H : Hp} {s : Shared}
theorem keys_is (I : Inv X pins σ H s) (sub : Same G H) : ∀ {xs : List (NestedKey × Addr × V)} {kvs : List (D × D)} {ys : List (NestedKey × Addr × Value)}, RepsN (cnOf X) G xs kvs → PN xs ys → ∀ y ∈ ys, (nestedKind X.prog X.w).is s.heap y.1 y.2.1
  | _, _, _, .nil, p => by cases p; intro y hy; cases hy
  | _, _, _, .cons l r1 _ t, p => by
    cases p with
    | cons h q =>
      intro y hy
      rcases List.mem_cons.mp hy with rfl | hy
      · obtain ⟨h1, h2, _⟩ := h
        simp only at h1 h2
        rw [← h1, ← h2]
        exact ⟨Rep.nested I sub _ _ _ r1 rfl, l⟩
      · exact keys_is I sub t q y hy
theorem nd_of {a : Addr} {xs : List (NestedKey × Addr × V)} {kvs : List (D × D)} (I : Inv X pins σ H s) (h : NAt (cnOf X) H a xs) (sub : Same G H) (rn : RepsN (cnOf X) G xs kvs) : (a == sysModules) = false ∧ xs.length ≤ sizeLine ∧ ∃ ys, PN xs ys ∧ s.heap.DictOfH (nestedKind X.prog X.w) a ys := by
  rcases h with h | ⟨rfl, h⟩
  · obtain ⟨⟨h1, h2, ys, p, o, es, ep, e1, e2, e3, e4, e5⟩, _⟩ := (show ObjOk X.prog X.w H s.heap a (.ext (NDict (cnOf X) a xs)) from I.hok a _ h)
    exact ⟨h1, h2, ys, p, o, es, ep, e1, e2, e3, e4, keys_is I sub rn p, e5⟩
  · obtain ⟨h1, h2, vs, kv, o, es, ep, e1, e2, e3, e4, e5, e6⟩ := (show ObjOk X.prog X.w H s.heap a (.dK []) from h.ok I.hok)
    cases kv
    have hes : es.toList = [] := by
      generalize es.toList = l at e5
      cases e5
      rfl
    exact ⟨h2, Nat.zero_le _, [], .nil, o, es, ep, e1, e2, e3, hes, (fun y hy => by cases hy), List.nodup_nil⟩
theorem look_n {c : Cn} {k : NestedKey} : ∀ {xs : List (NestedKey × Addr × V)} {kvs : List (D × D)} {ys : List (NestedKey × Addr × Value)}, RepsN c G xs kvs → PN xs ys →
    match lookD kvs k.data with
    | some e => ∃ b v u, atKey ys k = some (b, u) ∧ RelV v u ∧ Rep c G v e
    | none => atKey ys k = none
  | _, _, _, .nil, p => by cases p; rfl
  | _, _, _, .cons (k := k0) l r1 r2 t, p => by
    cases p with
    | cons h q =>
      rename_i y ys
      obtain ⟨h1, h2, h3⟩ := h
      simp only at h1 h2 h3
      have ih := look_n (k := k) t q
      by_cases e : k0 = k
      · have ee : PyData.eqv k0.data k.data = true := by rw [eqv_dec]; exact decide_eq_true e
        simp only [lookD, List.find?_cons, ee, Option.map_some]
        refine ⟨y.2.1, _, y.2.2, ?_, h3, r2⟩
        simp [atKey, ← h1, e]
      · have ee : PyData.eqv k0.data k.data = false := by rw [eqv_dec]; exact decide_eq_false e
        simp only [lookD, List.find?_cons, ee] at ih ⊢
        have : atKey (y :: ys) k = atKey ys k := by
          unfold atKey
          rw [List.find?_cons]
          have : decide (y.1 = k) = false := decide_eq_false (by rw [← h1]; exact e)
          rw [this]
        rw [this]
        exact ih
/-- what a view of a dict with tuple keys says -/
theorem Vw.dictN {c : Cn} {v : V} {kvs : List (D × D)} (h : Vw c G H v (.dict kvs)) (sub : Same G H) (ht : allTup kvs = true) : ∃ a xs, v = .ref a ∧ NAt c H a xs ∧ RepsN c G xs kvs := by
  have noK : ∀ {es : List (Key × V)}, RepsK c G es kvs → es = [] ∧ kvs = [] := by
    intro es r
    cases r with
    | nil => exact ⟨rfl, rfl⟩
    | cons a b =>
      rename_i k _ _ _ _
      cases k <;> simp [allTup, isTup, keyD] at ht
  rcases h with h | ⟨a, o, rfl, _, ob, e⟩
  · cases h with
    | dctK q r =>
      obtain ⟨rfl, rfl⟩ := noK r
      exact ⟨_, [], rfl, .inr ⟨rfl, rd_mono sub q⟩, .nil⟩
    | dctN q r => exact ⟨_, _, rfl, .inl (sub _ _ q), r⟩
  · cases o with
    | lst _ => cases e
    | dct kvs' =>
      cases e
      rcases ob with ⟨es, e1, r⟩ | ⟨xs, e1, r⟩
      · obtain ⟨rfl, rfl⟩ := noK r
        exact ⟨a, [], rfl, .inr ⟨rfl, .inl e1⟩, .nil⟩
      · exact ⟨a, xs, rfl, .inl e1, r⟩
theorem key_view {v : V} {u : Value} {d : D} {k : NestedKey} (h : Vw (cnOf X) G H v d) (I : Inv X pins σ H s) (sub : Same G H) (hk : tupKey d = some k) (r : RelV v u) : ∃ b, v = .ref b ∧ u = .ref b ∧ (nestedKind X.prog X.w).is s.heap k b ∧ Rep (cnOf X) G (.ref b) k.data := by
  obtain ⟨⟨ks, rfl⟩, hd, e⟩ := tupKey_some hk
  have e' : d = .tuple (NestedKey.datas ks) := by rw [← e]; simp only [NestedKey.data]
  rw [e'] at h
  obtain ⟨b, vs, rfl, sq, rs⟩ := h.tuple sub
  cases r
  have rp : Rep (cnOf X) G (.ref b) (NestedKey.tup ks).data := by simp only [NestedKey.data]; exact .tup sq rs
  exact ⟨b, rfl, rfl, ⟨Rep.nested I sub _ _ _ rp rfl, hd⟩, rp⟩
end
/-! ### in, not in, d[k], len, list(d) -/
def inN (d : D) (kvs : List (D × D)) : Option Bool := (tupKey d).bind fun _ => if allTup kvs = true then some (lookD kvs d).isSome else none
def pIn2 (d e : D) : Option Sl := match e with
  | .dict kvs => (inN d kvs).bind vB
  | e => pIn d e
def pNotIn2 (d e : D) : Option Sl := match e with
  | .dict kvs => (inN d kvs).bind fun b => vB (!b)
  | e => pNotIn d e
def pIx2 (d e : D) : Option Sl := match d with
  | .dict kvs => (tupKey e).bind fun _ => if allTup kvs = true then (lookD kvs e).map .val else none
  | d => pIx d e
def pLen2 (ds : List D) : Option Sl := match ds with
  | [.dict kvs] => if allTup kvs = true then vI kvs.length else none
  | ds => pLen ds
def pListC2 (ds : List D) : Option Sl := match ds with
  | [.dict kvs] => if allTup kvs = true then some (.own (.lst (kvs.map (·.1)))) else none
  | ds => pListC ds
theorem room_k {X : Cx} (hu : X.A.units + 64 < cLine) : (nestedKind X.prog X.w).room X.A.in1 := by
  show X.A.units + 1 + 8 < cLine
  omega
theorem RepsN.length {c : Cn} {G : Hp} : ∀ {xs : List (NestedKey × Addr × V)} {kvs : List (D × D)}, RepsN c G xs kvs → xs.length = kvs.length
  | _, _, .nil => rfl
  | _, _, .cons _ _ _ t => by simp [RepsN.length t]
section
variable {X : Cx}
theorem isSome_n {c : Cn} {G : Hp} {k : NestedKey} {xs : List (NestedKey × Addr × V)} {kvs : List (D × D)} {ys : List (NestedKey × Addr × Value)} (r : RepsN c G xs kvs) (p : PN xs ys) : (lookD kvs k.data).isSome = (atKey ys k).isSome := by
  have := look_n (k := k) r p
  cases q : lookD kvs k.data with
  | none => rw [q] at this; rw [this]; rfl
  | some e => rw [q] at this; obtain ⟨b, v, u, e1, _⟩ := this; rw [e1]; rfl
theorem op_in2 (hu : X.A.units + 64 < cLine) : OpR X (compareOp .In) (rD (cnOf X) pIn2) := by
  intro pins s σ H x y v u Q I rx ry ⟨G, d, e, r, sub, ntb, hv, hw, hp, k⟩
  cases e with
  | dict kvs =>
    simp only [pIn2, inN] at hp
    cases q : tupKey d with
    | none => rw [q] at hp; cases hp
    | some kk =>
      rw [q] at hp
      by_cases ht : allTup kvs = true
      · simp only [Option.bind_some, if_pos ht] at hp
        cases hp
        obtain ⟨b, rfl, rfl, ki, _⟩ := key_view hv I sub q rx
        obtain ⟨a, xs, rfl, na, rn⟩ := hw.dictN sub ht
        cases ry
        obtain ⟨h1, h2, ys, p, hm⟩ := nd_of I na sub rn
        refine in_keyed (room_k hu) ki h1 ⟨ys, hm, rfl⟩ ⟨.bl _, H, I.tok _, rfl, ?_⟩
        rw [valueAt_pairsH, Option.isSome_map, ← isSome_n rn p, (tupKey_some q).2.2]
        exact k_val sub ntb k (.bl _)
      · simp only [Option.bind_some, if_neg ht] at hp; cases hp
  | _ => exact op_inDD hu pins s σ H x y v u Q I rx ry ⟨G, d, _, r, sub, ntb, hv, hw, hp, k⟩
theorem op_notIn2 (hu : X.A.units + 64 < cLine) : OpR X (compareOp .NotIn) (rD (cnOf X) pNotIn2) := by
  intro pins s σ H x y v u Q I rx ry ⟨G, d, e, r, sub, ntb, hv, hw, hp, k⟩
  cases e with
  | dict kvs =>
    simp only [pNotIn2, inN] at hp
    cases q : tupKey d with
    | none => rw [q] at hp; cases hp
    | some kk =>
      rw [q] at hp
      by_cases ht : allTup kvs = true
      · simp only [Option.bind_some, if_pos ht] at hp
        cases hp
        obtain ⟨b, rfl, rfl, ki, _⟩ := key_view hv I sub q rx
        obtain ⟨a, xs, rfl, na, rn⟩ := hw.dictN sub ht
        cases ry
        obtain ⟨h1, h2, ys, p, hm⟩ := nd_of I na sub rn
        refine notIn_keyed (room_k hu) ki h1 ⟨ys, hm, rfl⟩ ⟨.bl _, H, I.tok _, rfl, ?_⟩
        rw [valueAt_pairsH, Option.isSome_map, ← isSome_n rn p, (tupKey_some q).2.2]
        exact k_val sub ntb k (.bl _)
      · simp only [Option.bind_some, if_neg ht] at hp; cases hp
  | _ => exact op_notInDD hu pins s σ H x y v u Q I rx ry ⟨G, d, _, r, sub, ntb, hv, hw, hp, k⟩
theorem ix_D2 (hu : X.A.units + 64 < cLine) : IxR X (rD (cnOf X) pIx2) := by
  intro value slice pins s σ H x y v u Q I rx ry ⟨G, d, e, r, sub, ntb, hv, hw, hp, k⟩ hs
  cases d with
  | dict kvs =>
    simp only [pIx2] at hp
    cases q : tupKey e with
    | none => rw [q] at hp; cases hp
    | some kk =>
      rw [q] at hp
      by_cases ht : allTup kvs = true
      · simp only [Option.bind_some, if_pos ht] at hp
        cases q2 : lookD kvs e with
        | none => rw [q2] at hp; cases hp
        | some e' =>
        rw [q2] at hp; cases hp
        obtain ⟨b, rfl, rfl, ki, _⟩ := key_view hw I sub q ry
        obtain ⟨a, xs, rfl, na, rn⟩ := hv.dictN sub ht
        cases rx
        obtain ⟨h1, h2, ys, p, hm⟩ := nd_of I na sub rn
        have lk := look_n (k := kk) rn p
        rw [(tupKey_some q).2.2, q2] at lk
        obtain ⟨b', v', u', e1, e2, e3⟩ := lk
        have hva : valueAt (pairsH ys) kk = some u' := by rw [valueAt_pairsH, e1]; rfl
        exact subscriptTail_builtinR (x := u') hm.typeIs F.slot_dict_getitem.lookup (getItem_keyed (Q := fun r s' => r = u' ∧ EP X pins σ Q r s') (room_k hu) ki ⟨ys, hm, rfl⟩ hva ⟨rfl, v', H, I.tok _, e2, k_val sub ntb k e3⟩) hs
      · simp only [Option.bind_some, if_neg ht] at hp; cases hp
  | _ => exact ix_D value slice pins s σ H x y v u Q I rx ry ⟨G, _, e, r, sub, ntb, hv, hw, hp, k⟩ hs
theorem PN.length {xs : List (NestedKey × Addr × V)} {ys : List (NestedKey × Addr × Value)} (p : PN xs ys) : xs.length = ys.length := Paired.length p
theorem cr_len2 : CallR X (.builtin "len") (rDN (cnOf X) pLen2) := by
  intro pins s σ H xs us Q I rs ⟨G, ds, r, sub, ntb, hv, hp, k⟩
  unfold pLen2 at hp
  split at hp
  · rename_i kvs
    by_cases ht : allTup kvs = true
    · rw [if_pos ht] at hp; cases hp
      obtain ⟨v, rfl, hv1⟩ := one_arg hv
      obtain ⟨a, xs, rfl, na, rn⟩ := hv1.dictN sub ht
      rw [Vals.ref1 rs]
      obtain ⟨h1, h2, ys, p, hm⟩ := nd_of I na sub rn
      have hl := p.length
      have hl2 := rn.length
      have := line63
      refine call_len_dictH h1 hm (by omega) ⟨.int kvs.length, H, I.tok _, ⟨_, by rw [← hl, hl2]⟩, k_val sub ntb k (.int _)⟩
    · rw [if_neg ht] at hp; cases hp
  · exact cr_len pins s σ H xs us Q I rs ⟨G, _, r, sub, ntb, hv, hp, k⟩
theorem calm_hd {pins : List (Addr × Obj)} {σ : St} {H : Hp} {s : Shared} (hc : X.calm = true) (I : Inv X pins σ H s) : X.A.handled = none := I.ok.hd hc
theorem keys_vals {c : Cn} {G : Hp} : ∀ {xs : List (NestedKey × Addr × V)} {kvs : List (D × D)} {ys : List (NestedKey × Addr × Value)}, RepsN c G xs kvs → PN xs ys → Reps c G (ys.map fun y => V.ref y.2.1) (kvs.map (·.1))
  | _, _, _, .nil, p => by cases p; exact .nil
  | _, _, _, .cons l r1 _ t, p => by
    cases p with
    | cons h q =>
      obtain ⟨_, h2, _⟩ := h
      simp only at h2
      exact .cons (by simp only; rw [← h2]; exact r1) (keys_vals t q)
theorem cr_list2 (hc : X.calm = true) : CallR X (.type "list") (rDN (cnOf X) pListC2) := by
  intro pins s σ H xs us Q I rs ⟨G, ds, r, sub, ntb, hv, hp, k⟩
  unfold pListC2 at hp
  split at hp
  · rename_i kvs
    by_cases ht : allTup kvs = true
    · rw [if_pos ht] at hp; cases hp
      obtain ⟨v, rfl, hv1⟩ := one_arg hv
      obtain ⟨a, xs, rfl, na, rn⟩ := hv1.dictN sub ht
      rw [Vals.ref1 rs]
      obtain ⟨h1, h2, ys, p, o, es, ep, ho, hx, hdt, he, hkeys, hn⟩ := nd_of I na sub rn
      have hl := p.length
      have l1 : es.size = ys.length := size_of_entries he
      refine PySem.W.kdl_call (kdl_raw h1 hx hdt) (I.ok.hd hc) ho (by omega) fun h' tk acc' c' kp e it => ?_
      have ea : acc'.toList = ys.map fun y => Value.ref y.2.1 := by
        have hl : acc'.toList.length = ys.length := by rw [Array.length_toList, it.1]; exact l1
        apply List.ext_getElem?
        intro j
        rw [List.getElem?_map]
        cases hj : acc'.toList[j]? with
        | none =>
          have h1 := List.getElem?_eq_none_iff.mp hj
          rw [List.getElem?_eq_none (by omega)]
          all_goals rfl
        | some v =>
          obtain ⟨en, hen, hv⟩ := it.2 j v (by rw [← Array.getElem?_toList]; exact hj)
          have qe := entry_at he j
          rw [hen] at qe
          cases hb : ys[j]? with
          | none =>
            rw [hb] at qe
            exact nomatch (show some en = none from qe)
          | some b =>
            rw [hb] at qe
            have e2 : en = entryOfKey (nestedKind X.prog X.w) b := Option.some.inj qe
            rw [hv, e2]
            all_goals rfl
      have rv : Vals (ys.map fun y => V.ref y.2.1) acc'.toList := by
        rw [ea]
        have : ∀ l : List (NestedKey × Addr × Value), Vals (l.map fun y => V.ref y.2.1) (l.map fun y => Value.ref y.2.1) := fun l => by
          induction l with
          | nil => exact .nil
          | cons y l ih => exact .cons rfl ih
        exact this ys
      refine ⟨.ref s.heap.objs.size, _, I.laid (t' := tk) (o := .lst (ys.map fun y => V.ref y.2.1)) kp (Nat.le_refl _) ?_, rfl, k_lst sub ntb k (keys_vals rn p) (I.hok.fresh (Nat.le_refl _))⟩
      exact ⟨by rw [List.length_map]; omega, acc'.toList, c', rv, by rw [Array.toArray_toList]; exact e⟩
    · rw [if_neg ht] at hp; cases hp
  · exact cr_list pins s σ H xs us Q I rs ⟨G, _, r, sub, ntb, hv, hp, k⟩
/-! ### stores -/
theorem RepsN.append {c : Cn} {G : Hp} : ∀ {xs ys : List (NestedKey × Addr × V)} {kvs lvs : List (D × D)}, RepsN c G xs kvs → RepsN c G ys lvs → RepsN c G (xs ++ ys) (kvs ++ lvs)
  | _, _, _, _, .nil, q => q
  | _, _, _, _, .cons l a b t, q => .cons l a b (t.append q)
/-- behind a store: the entries -/
theorem store_n {c : Cn} {G : Hp} {k : NestedKey} {a : Addr} {v : V} {u : Value} {e : D} (hd : k.depth ≤ 8) (rk : Rep c G (.ref a) k.data) (rv : Rep c G v e) (ru : RelV v u) {xs : List (NestedKey × Addr × V)} {kvs : List (D × D)} {ys : List (NestedKey × Addr × Value)} (r : RepsN c G xs kvs) (p : PN xs ys) :
    ∃ xs', PN xs' (storedH ys k a u) ∧ RepsN c G xs' (storeD kvs k.data e) ∧ xs'.length ≤ xs.length + 1 := by
  have hs := isSome_n (k := k) r p
  unfold storedH storeD
  rw [← hs]
  by_cases h : (lookD kvs k.data).isSome = true
  · rw [if_pos h, if_pos h]
    clear hs h
    suffices h : ∃ xs', PN xs' (ys.map (putAt k u)) ∧ RepsN c G xs' (kvs.map fun p => if PyData.eqv p.1 k.data = true then (p.1, e) else p) ∧ xs'.length = xs.length by
      obtain ⟨xs', h1, h2, h3⟩ := h
      exact ⟨xs', h1, h2, by omega⟩
    induction p generalizing kvs with
    | nil => cases r; exact ⟨[], .nil, .nil, rfl⟩
    | cons h q ih =>
      rename_i x y _ _
      cases r with
      | cons l r1 r2 t =>
        rename_i k0 b v0 d0 kvs0
        obtain ⟨xs', g1, g2, g3⟩ := ih t
        obtain ⟨h1, h2, h3⟩ := h
        simp only at h1 h2 h3
        by_cases ek : k0 = k
        · refine ⟨(k0, b, v) :: xs', .cons ?_ g1, ?_, by simp [g3]⟩
          · unfold putAt
            rw [if_pos (by rw [← h1]; exact ek)]
            exact ⟨h1, h2, ru⟩
          · simp only [List.map_cons]
            rw [if_pos (by rw [eqv_dec]; exact decide_eq_true ek)]
            exact .cons l r1 rv g2
        · refine ⟨(k0, b, v0) :: xs', .cons ?_ g1, ?_, by simp [g3]⟩
          · unfold putAt
            rw [if_neg (by rw [← h1]; exact ek)]
            exact ⟨h1, h2, h3⟩
          · simp only [List.map_cons]
            rw [if_neg (by rw [eqv_dec]; simpa using ek)]
            exact .cons l r1 r2 g2
  · rw [if_neg h, if_neg h]
    refine ⟨xs ++ [(k, a, v)], ?_, r.append (.cons hd rk rv .nil), by simp⟩
    exact Paired.snoc p ⟨rfl, rfl, ru⟩
/-- what a store makes of an owned object -/
def storeOb : Ob → D → D → Option Ob
  | .lst xs, .int i, e => (ixN xs.length i).map fun j => .lst (xs.set j e)
  | .dct kvs, d, e => (tupKey d).bind fun _ => if allTup kvs = true ∧ kvs.length < sizeLine then some (.dct (storeD kvs d e)) else none
  | _, _, _ => none
def rSetO (c : Cn) : TSet := fun o i v H Q => ∃ G a ob d e ob', o = .ref a ∧ G a = none ∧ Same G H ∧ ObAt c G H a ob ∧ Rep c G i d ∧ Rep c G v e ∧ storeOb ob d e = some ob' ∧ ∀ u, ObAt c G (upd H a u) a ob' → Q (upd H a u)
theorem Mut_upd {H : Hp} {a : Addr} {xs : List (NestedKey × Addr × V)} {c : Cn} (h : NAt c H a xs) (hf : ∀ o u, H a ≠ some (.frz o u)) : Mut (H a) := by
  rcases h with h | ⟨_, h | ⟨o, h⟩⟩
  · rw [h]; trivial
  · rw [h]; trivial
  · exact (hf o _ h).elim
theorem ndict_of {a : Addr} {xs : List (NestedKey × Addr × V)} {ys : List (NestedKey × Addr × Value)} {c : Cn} {h : Heap} (hs : (a == sysModules) = false) (hl : xs.length ≤ sizeLine) (p : PN xs ys) (hm : h.DictOfH (nestedKind c.P c.w) a ys) : NDict c a xs h := by
  obtain ⟨o, es, ep, h1, h2, h3, h4, h5, h6⟩ := hm
  exact ⟨hs, hl, ys, p, o, es, ep, h1, h2, h3, h4, h6⟩
theorem ndict_ok {P : Program} {w : World} {H : Hp} {c : Cn} {a : Addr} {xs : List (NestedKey × Addr × V)} {h : Heap} (n : NDict c a xs h) : ObjOk P w H h a (.ext (NDict c a xs)) := by
  refine ⟨n, ?_, fun h1 h2 n hk => ?_⟩
  · obtain ⟨_, _, _, _, o, _, _, e, _⟩ := n
    exact ⟨o, e⟩
  · obtain ⟨g1, g2, ys, p, o, es, ep, e, g3⟩ := n
    exact ⟨g1, g2, ys, p, o, es, ep, hk o e, g3⟩
theorem set_O (hu : X.A.units + 64 < cLine) : PSet X (rSetO (cnOf X)) := by
  intro pins s σ H o i v ov iv u Q I ro ri rv ⟨G, a, ob, d, e, ob', ho, hg, sub, oat, ri', rv', hst, k⟩
  subst ho
  cases ob with
  | lst xs =>
    cases d with
    | int j =>
      simp only [storeOb] at hst
      cases q : ixN xs.length j with
      | none => rw [q] at hst; cases hst
      | some jj =>
        rw [q] at hst; cases hst
        obtain ⟨vs, e1, rs⟩ := oat
        cases ri'
        exact set_list pins s σ H _ _ v ov iv u Q I ro ri rv ⟨a, vs, j, jj, rfl, rfl, e1, by rw [rs.length]; exact q, k _ ⟨_, upd_same, rs.set rv' jj⟩⟩
    | _ => cases hst
  | dct kvs =>
    simp only [storeOb] at hst
    cases q : tupKey d with
    | none => rw [q] at hst; cases hst
    | some kk =>
      rw [q] at hst
      by_cases ht : allTup kvs = true ∧ kvs.length < sizeLine
      · simp only [Option.bind_some, if_pos ht] at hst
        cases hst
        obtain ⟨b, rfl, rfl, ki, rk⟩ := key_view (.inl ri') I sub q ri
        have vw : Vw (cnOf X) G H (.ref a) (.dict kvs) := .inr ⟨a, .dct kvs, rfl, hg, oat, rfl⟩
        obtain ⟨a', xs, ea, na, rn⟩ := vw.dictN sub ht.1
        cases ea
        cases ro
        obtain ⟨h1, h2, ys, p, hm⟩ := nd_of I na sub rn
        have hkd := (tupKey_some q).2.2
        obtain ⟨xs', p', rn', hl'⟩ := store_n (tupKey_some q).2.1 rk rv' rv rn p
        have hlx := rn.length
        have hly := p.length
        have hz' : xs'.length ≤ sizeLine := by omega
        have hmut : Mut (H a) := by
          refine Mut_upd na fun o u z => ?_
          rcases oat with ⟨es, z2, _⟩ | ⟨es, z2, _⟩
          · rw [z2] at z; cases z
          · rw [z2] at z; cases z
        refine wpAny_setItem_heap (hsz := by omega) (room_k hu) ki hm fun h' hm' hs => ?_
        have nd : NDict (cnOf X) a xs' h' := ndict_of h1 hz' p' hm'
        refine ⟨upd H a (.ext (NDict (cnOf X) a xs')), ?_, k _ (.inr ⟨xs', upd_same, by rw [← hkd]; exact rn'⟩)⟩
        refine I.write (t' := s.toks + (nestedKind X.prog X.w).draws kk) hmut (.inl rfl) (fun b u hb e => (hs.2 b hb).trans e) ?_ (ndict_ok nd)
        obtain ⟨_, _, _, _, o, _, _, e, _⟩ := nd
        exact ⟨o, e⟩
      · simp only [Option.bind_some, if_neg ht] at hst; cases hst
end
end Sd
set_option Elab.async false
set_option linter.all false
set_option maxRecDepth 100000
set_option maxHeartbeats 4000000
set_option autoImplicit false
/-! Sd: stores at subscripts, new dicts. -/
namespace Sd
open PySem PySem.Spec PyProof.Rows L2

def mStore (i : Nat) (g f : M Sl) : MS := fun ρ => (f ρ).out fun r ρ1 => match ρ1[i]? with
  | some (some (.own _)) => (g ρ1).out fun k ρ2 => match ρ2[i]? with
    | some (some (.own ob)) => match storeOb ob k.frz r.frz with
      | some ob' => .nx (ρ2.set i (some (.own ob')))
      | none => .bad
    | _ => .bad
  | _ => .bad
def sDict0 : M Sl := fun ρ => .ok (.own (.dct [])) ρ
theorem WtS.laterT {c : Cn} {T : Fx} {W : WX} {O : Addr → Prop} {G H G1 H1 : Hp} {σ : St} {x : Out} {E : Ends} (t : Tr O G H G1 H1) (h : WtS c T W O G σ H x E) : WtS c T W O G1 σ H1 x E := h.later (fun _ z => .inl z) t
section
variable {X : Cx} {T : Fx} {W : WX} {e ix : Expr} {y : Str} {p1 pos' pos : Pos} {i : Nat} {f g : M Sl}
theorem imp_store {c : Cn} {E : Ends} {σ : St} {H : Hp} (h : dS c T W (mStore i g f) E σ H) : tAsg (dT c T W f) (gSub (tVar i) (dT c T W g) (rSetO c)) E σ H := by
  obtain ⟨O, G, ρ, hold, h⟩ := h
  refine ⟨O, G, ρ, hold, ?_⟩
  unfold mStore at h
  cases q : f ρ with
  | bad => rw [q] at h; exact h
  | exc x ρ' => rw [q] at h; exact fun G' H' tr hd => h O G' σ H' (fun _ z => .inl z) tr hd
  | ok r ρ0 =>
  rw [q] at h
  simp only [Res.out_ok] at h
  intro v G0 H0 t0 hd0 rr
  obtain ⟨G1, s1, t1, hold1, rv⟩ := hd0.frzR hold.oin t0 rr
  replace h := h.laterT t1
  cases q1 : ρ0[i]? with
  | none => rw [q1] at h; exact h.elim
  | some os =>
  cases os with
  | none => rw [q1] at h; exact h.elim
  | some sl =>
  cases sl with
  | val d => rw [q1] at h; exact h.elim
  | own o0 =>
  rw [q1] at h
  simp only at h
  obtain ⟨a, ea, _, _, _⟩ := hold1.at_own q1
  refine ⟨.ref a, ea, O, G1, ρ0, hold1, ?_⟩
  cases q2 : g ρ0 with
  | bad => rw [q2] at h; exact h
  | exc x ρ' => rw [q2] at h; exact fun G' H' tr hd => h O G' σ H' (fun _ z => .inl z) tr hd
  | ok k ρ2 =>
  rw [q2] at h
  simp only [Res.out_ok] at h
  intro vk G2 H2 t2 hd2 rk
  obtain ⟨G3, s3, t3, hold3, rk'⟩ := hd2.frzR hold1.oin t2 rk
  replace h := h.laterT t3
  cases q3 : ρ2[i]? with
  | none => rw [q3] at h; exact h.elim
  | some os =>
  cases os with
  | none => rw [q3] at h; exact h.elim
  | some sl =>
  cases sl with
  | val d => rw [q3] at h; exact h.elim
  | own ob =>
  rw [q3] at h
  simp only at h
  cases q4 : storeOb ob k.frz r.frz with
  | none => rw [q4] at h; exact h.elim
  | some ob' =>
  rw [q4] at h
  simp only at h
  obtain ⟨a', ea', hO, hg, oat⟩ := hold3.at_own q3
  rw [ea] at ea'; cases ea'
  refine ⟨G3, a, ob, k.frz, r.frz, ob', rfl, hg, hold3.sub, oat, rk', rv.mono t3.g, q4, fun u oat' => ?_⟩
  obtain ⟨h5, t5⟩ := hold3.writeO q3 ea oat'
  exact h O G3 σ _ (fun _ z => .inl z) t5 h5
theorem ps_storeD (hu : X.A.units + 64 < cLine) (he : PE X e (dT (cnOf X) T W f)) (hv : PE X (.Name y p1) (tVar i)) (hx : PE X ix (dT (cnOf X) T W g))
    (ha : ∀ v, assign (.Subscript (.Name y p1) ix pos') X.env v = (do
      let ov ← holding [v] (eval (.Name y p1) X.env)
      let iv ← holding [v, ov] (eval ix X.env)
      standAt pos'
      holding [v, ov, iv] (setItem ov iv v)
      release [v, ov, iv] []) := by intro _; rfl)
    (hs : swapsWithSole [.Subscript (.Name y p1) ix pos'] e pos.line X.env = pure false := by rfl) (hw : swappedStores [.Subscript (.Name y p1) ix pos'] e X.env = pure none := by rfl)
    (h1 : (assignEach [.Subscript (.Name y p1) ix pos'] X.env).map (·.2) = [assign (.Subscript (.Name y p1) ix pos') X.env] := by rfl) :
    PS X (.Assign [.Subscript (.Name y p1) ix pos'] e pos) (dS (cnOf X) T W (mStore i g f)) := impPS (ps_asg he (pg_sub hv hx (set_O hu) ha) hs hw h1) fun E σ H h => imp_store h
theorem pe_dict0D : PE X (.Dict [] [] pos) (dT (cnOf X) T W sDict0) := impPE pe_dnewK fun σ H Q h => by
  obtain ⟨O, G, ρ, hold, h⟩ := h
  intro p hp
  have tn := TrN.laid (G := G) (p := p) (o := .dK []) hold.sub hold.ntb hp
  exact h (.ref p) _ _ tn.tr (hold.trn tn) ⟨p, rfl, hp, hold.gnone hp, .inl ⟨[], upd_same, .nil⟩⟩
end

/-! ### dict(pairs) -/
def pairD : D → Option (D × D)
  | .tuple [k, e] => (tupKey k).map fun _ => (k, e)
  | _ => none
def pairsD : List D → Option (List (D × D))
  | [] => some []
  | d :: ds => (pairD d).bind fun p => (pairsD ds).map (p :: ·)
def dictOf (acc : List (D × D)) (kes : List (D × D)) : List (D × D) := kes.foldl (fun acc p => storeD acc p.1 p.2) acc
def pDictC : List D → Option Sl
  | [.list ds] => (pairsD ds).map fun kes => .own (.dct (dictOf [] kes))
  | _ => none
section
variable {X : Cx} {pins : List (Addr × Obj)} {σ : St} {G H : Hp} {s : Shared}
theorem pairs_n (I : Inv X pins σ H s) (sub : Same G H) : ∀ {vs : List V} {ds : List D} {its : List Value}, Reps (cnOf X) G vs ds → Vals vs its → ∀ kes, pairsD ds = some kes →
    ∃ (ps : List (Value × Value)) (hs : List (NestedKey × Addr × Value)) (xs : List (NestedKey × Addr × V)), ps.length = its.length ∧ (∀ (j : Nat) k v, ps[j]? = some (k, v) → ∃ T, its[j]? = some (.ref T) ∧ PairAt s.heap T k v) ∧
      hs.length = ps.length ∧ (∀ (j : Nat) k v, ps[j]? = some (k, v) → ∃ kk b, hs[j]? = some (kk, b, v) ∧ k = .ref b) ∧ PN xs hs ∧ RepsN (cnOf X) G xs kes ∧ (∀ y ∈ hs, (nestedKind X.prog X.w).is s.heap y.1 y.2.1)
  | _, [], _, r, v, kes, h => by
    cases r; cases v; cases h
    exact ⟨[], [], [], rfl, (fun j k v e => by simp at e), rfl, (fun j k v e => by simp at e), .nil, .nil, fun y hy => by cases hy⟩
  | _, d :: ds, _, r, v, kes, h => by
    cases r with
    | cons r1 r2 =>
      cases v with
      | cons v1 v2 =>
        simp only [pairsD] at h
        cases q : pairD d with
        | none => rw [q] at h; cases h
        | some p =>
        rw [q] at h
        cases q2 : pairsD ds with
        | none => rw [q2] at h; cases h
        | some kes' =>
        rw [q2] at h; cases h
        obtain ⟨ps, hs, xs, h1, h2, h3, h4, h5, h6, h7⟩ := pairs_n I sub r2 v2 kes' q2
        unfold pairD at q
        split at q
        rotate_left
        · cases q
        rename_i kd e
        cases q3 : tupKey kd with
        | none => rw [q3] at q; cases q
        | some kk =>
        rw [q3] at q; cases q
        cases r1 with
        | tup sq rs =>
          cases v1
          obtain ⟨it2, rv, p2, _⟩ := I.tuple (sqt_mono sub sq)
          cases rs with
          | cons a b =>
            cases b with
            | cons b b' =>
              cases b'
              obtain ⟨u1, u2, rfl, w1, w2⟩ := vals2 rv
              obtain ⟨bb, rfl, rfl, ki, rk⟩ := key_view (.inl a) I sub q3 w1
              refine ⟨(.ref bb, u2) :: ps, (kk, bb, u2) :: hs, (kk, bb, _) :: xs, by simp [h1], fun j k v e => ?_, by simp [h3], fun j k v e => ?_, .cons ⟨rfl, rfl, w2⟩ h5, ?_, fun y hy => ?_⟩
              · cases j with
                | zero => cases e; exact ⟨_, rfl, .inl p2⟩
                | succ j => simpa using h2 j k v (by simpa using e)
              · cases j with
                | zero => cases e; exact ⟨kk, bb, rfl, rfl⟩
                | succ j => simpa using h4 j k v (by simpa using e)
              · have hkd := (tupKey_some q3).2.2
                rw [← hkd]
                exact .cons (tupKey_some q3).2.1 rk b h6
              · rcases List.mem_cons.mp hy with rfl | hy
                · exact ki
                · exact h7 y hy
theorem dict_n {c : Cn} : ∀ {hs : List (NestedKey × Addr × Value)} {xs : List (NestedKey × Addr × V)} {kes : List (D × D)}, PN xs hs → RepsN c G xs kes →
    ∀ {ax : List (NestedKey × Addr × V)} {ay : List (NestedKey × Addr × Value)} {acc : List (D × D)}, PN ax ay → RepsN c G ax acc → ∃ xs', PN xs' (storedAllH ay hs) ∧ RepsN c G xs' (dictOf acc kes) ∧ xs'.length ≤ ax.length + xs.length
  | _, _, _, .nil, r, ax, ay, acc, p, q => by
    cases r
    exact ⟨ax, p, q, by simp⟩
  | y :: _, _, _, .cons h t, r, ax, ay, acc, p, q => by
    cases r with
    | cons l r1 r2 r3 =>
      rename_i b k v xs0 d kvs
      obtain ⟨h1, h2, h3⟩ := h
      simp only at h1 h2 h3
      obtain ⟨xs1, g1, g2, g3⟩ := store_n l r1 r2 h3 q p
      obtain ⟨xs', g4, g5, g6⟩ := dict_n t r3 g1 g2
      refine ⟨xs', ?_, g5, by simp only [List.length_cons]; omega⟩
      show PN xs' (storedAllH (storedH ay y.1 y.2.1 y.2.2) _)
      rw [← h1, ← h2]
      exact g4
theorem cr_dict (hc : X.calm = true) (hu : X.A.units + 64 < cLine) : CallR X (.type "dict") (rDN (cnOf X) pDictC) := by
  intro pins s σ H xs us Q I rs ⟨G, ds, r, sub, ntb, hv, hp, k⟩
  unfold pDictC at hp
  split at hp
  · rename_i ds
    cases q : pairsD ds with
    | none => rw [q] at hp; cases hp
    | some kes =>
    rw [q] at hp; cases hp
    obtain ⟨v, rfl, hv1⟩ := one_arg hv
    obtain ⟨l, vs, rfl, sv, rv⟩ := hv1.list sub
    obtain ⟨its, rvs, ⟨o, n, ho, hoc, hod, hdat⟩, hz⟩ := I.list sv
    rw [Vals.ref1 rs]
    obtain ⟨ps, hs, xs, h1, h2, h3, h4, h5, h6, h7⟩ := pairs_n I sub rv rvs kes q
    have hl := rvs.length
    obtain ⟨xs', g1, g2, g3⟩ := dict_n h5 h6 (ax := []) (ay := []) (acc := []) .nil .nil
    have hpl := h5.length
    have ok : PlainSeq "list" s.heap l its.toArray ∧ PairItems s.heap its.toArray (fun j => match its[j]? with | some (.ref t) => t | _ => 0) ps := by
      refine ⟨⟨o, n, ho, hoc, hod, hdat⟩, by simp [h1], fun j kk v e => ?_⟩
      obtain ⟨t, e1, e2⟩ := h2 j kk v e
      simp only [e1]
      exact ⟨by simpa using e1, e2⟩
    refine call_dict_pairsH (knd := nestedKind X.prog X.w) (ps := hs) (PairArg.list l its.toArray (fun j => match its[j]? with | some (.ref t) => t | _ => 0) ps) (I.ok.hd hc) (show X.A.units + 2 + 8 < cLine by omega) ok ⟨h3, fun i key v e => ?_⟩ (fun h' hk y hy => ?_) (by omega) fun h' tk hd hk => ?_
    · exact h4 i key v e
    · exact nestedKind_stays.stays (fun b o vs m e _ => hk b o (Nat.ne_of_lt (Heap.lt_size e)) (fun z => nomatch z) e) (h7 y hy)
    · have hm : (s.heap.objs.size == sysModules) = false := beq_eq_false_iff_ne.mpr (Nat.ne_of_gt I.big)
      have nd : NDict (cnOf X) s.heap.objs.size xs' h' := ndict_of hm (by simp at g3; omega) g1 hd
      refine ⟨.ref _, upd H s.heap.objs.size (.ext (NDict (cnOf X) s.heap.objs.size xs')), I.laid (t' := tk) (fun b o e => hk b o (fun z => nomatch z) e) (Nat.le_refl _) (ndict_ok nd), rfl, ?_⟩
      have hp : H s.heap.objs.size = none := I.hok.fresh (Nat.le_refl _)
      exact k _ _ _ (TrN.laid sub ntb hp) ⟨_, rfl, hp, gnone sub hp, .inr ⟨xs', upd_same, g2⟩⟩
  · cases hp
end
end Sd
set_option Elab.async false
set_option linter.all false
set_option maxRecDepth 100000
set_option maxHeartbeats 4000000
set_option autoImplicit false
/-! Sd: list(reversed(xs)), chains, parallel stores, stars. -/
namespace Sd
open PySem PySem.Spec PyProof.Rows L2

section
variable {prog : Program} {w : World} {A : Around} {E : Value → Shared → Prop} {s : Shared}
theorem listrev_extend {it l : Addr} {items : Array Value} {R : Result → Shared → Prop} (hh : A.handled = none) (hit : s.heap.IsRevIter it l ((items.size : Int) - 1)) (hl : s.heap.IsList l items) (hne : l ≠ it) (hn : items.size ≤ sizeLine) (S : Addr) (hSi : S ≠ it) (hSl : S ≠ l) (c₀ : Nat)
    (hS : s.heap.get? S = some { cls := .type "list", data := .seq #[] c₀ })
    (hR : ∀ h' tk acc' c', (∀ b o, b ≠ S → b ≠ it → s.heap.get? b = some o → h'.get? b = some o) → h'.get? S = some { cls := .type "list", dict := none, data := .seq acc' c', slots := #[] } → ItemsOf (fun i v => items[items.size - 1 - i]? = some v) acc' items.size → R (.ok (.ret .none)) { s with heap := h', toks := tk }) :
    wpAny (model prog w) A.in1 (Builtin.List.listExtendWith (.ref S) (.ref it) .none)
      (fun fin s' => match fin with | .done f => R (.ok f) s' | .again c' => c'.quiet = true ∧ codeAny (model prog w) A c' R s') (fun e s' => R (.error e) s') s := by
  have W := (Walks.listRev (prog := prog) (w := w) (A := A.in1) hh it l hne items).toS
  have hSf : S ∉ [it, l] := by simp only [List.mem_cons, List.not_mem_nil, or_false, not_or]; exact ⟨hSi, hSl⟩
  have hT : s.TypeIs (.ref it) "list_reverseiterator" := hit.typeIs
  have h1 : Builtin.List.listSameRef (.ref S) (.ref it) = false := by simp [Builtin.List.listSameRef, hSi]
  unfold Builtin.List.listExtendWith
  refine wpAny_bind (wpAny_typeOf hT ?_)
  rw [if_neg (by rw [h1]; decide)]
  refine wpAny_bind (wpAny_pyIter_revIter hit ?_)
  refine wpAny_bind (wpAny_holding ?_)
  unfold Builtin.List.listLengthHint
  refine wpAny_bind (wpAny_specialOf hT RT.nolen_lri ?_)
  show wpAny _ A.in1 (specialOf (Value.ref it) (Str.ofString "__length_hint__") >>= _) _ _ _
  refine wpAny_bind (wpAny_specialOf hT RT.hint_lri ?_)
  generalize hid : ("list_reverseiterator.__length_hint__" : String) = id0
  wp_delta
  rw [show splitId id0 = some ("list_reverseiterator", "__length_hint__") from by subst hid; decide +kernel]
  subst hid
  refine wpAny_bind (wpAny_isInstance (b := true) hT (by rw [isSubtype_type]; kernel_rfl) ?_)
  refine wpAny_pure ?_
  rw [if_neg (by decide)]
  have e0 : ((items.size : Nat) : Int) - 1 - ((0 : Nat) : Int) = (items.size : Int) - 1 := by omega
  refine wpAny_pure ⟨plainId_quiet F.plain_extend_loop _, codeAny_extend_loopS W hn _ hSf _ items.size 0 _ _ _ rfl (Nat.zero_le _) ⟨Nat.zero_le _, by rw [e0]; exact hit, hl⟩ hS (ItemsOf.nil _) fun s' acc' c' hm hS' hacc => ?_⟩
  rw [Moved.eq_with hm]
  refine hR s'.heap s'.toks acc' c' (fun b o hb hb2 e => hm.heap b o (fun hmem => ?_) e) hS' hacc
  rcases List.mem_cons.mp hmem with e' | hmem
  · exact hb e'
  · exact hb2 (List.mem_singleton.mp hmem)
theorem call_list_rev {it l : Addr} {items : Array Value} {Q : Value → Shared → Prop} (hh : A.handled = none) (hit : s.heap.IsRevIter it l ((items.size : Int) - 1)) (hl : s.heap.IsList l items) (hne : l ≠ it) (hn : items.size ≤ sizeLine)
    (hQ : ∀ (h' : Heap) (tk : Nat) (acc : Array Value) (c : Nat), (∀ b o, b ≠ it → s.heap.get? b = some o → h'.get? b = some o) → h'.get? s.heap.objs.size = some { cls := .type "list", dict := none, data := .seq acc c, slots := #[] } → ItemsOf (fun i v => items[items.size - 1 - i]? = some v) acc items.size →
      Q (.ref s.heap.objs.size) { s with heap := h', toks := tk }) : wpAny (model prog w) A (call (.type "list") [.ref it]) Q E s := by
  obtain ⟨oi, hoi, hoi2⟩ := id hit
  obtain ⟨ol, hol, hol2⟩ := id hl
  have hSi : s.heap.objs.size ≠ it := Nat.ne_of_gt (Heap.lt_size hoi)
  have hSl : s.heap.objs.size ≠ l := Nat.ne_of_gt (Heap.lt_size hol)
  refine callType_codes (Q₁ := fun obj s₁ => obj = .ref s.heap.objs.size ∧ s₁ = { s with heap := s.heap.push { cls := .type "list", data := .seq #[] } }) PySem.F.called_list (PySem.F.typeCall_list_1 _) PySem.F.entry_list_init
    (code_list_new _ ⟨rfl, rfl⟩) fun obj s₁ h₁ => ?_
  obtain ⟨rfl, rfl⟩ := h₁
  have hS : (s.heap.push { cls := .type "list", data := .seq #[] }).get? s.heap.objs.size = some { cls := .type "list", data := .seq #[] } := Heap.get?_push_size _ rfl
  refine ⟨⟨_, hS, rfl⟩, PySem.F.args_list_init_2 _ _, ?_⟩
  show wpAny _ _ (do let old ← Builtin.List.listItems (.ref s.heap.objs.size); Builtin.List.listUpdate (.ref s.heap.objs.size) (fun _ => #[]); letGo old.toList.reverse; Builtin.List.listExtendWith (.ref s.heap.objs.size) (.ref it) .none) _ _ _
  refine wpAny_bind ?_
  unfold Builtin.List.listItems
  refine wpAny_bind (wpAny_seqItems hS rfl (wpAny_pure ?_))
  show wpAny _ _ (updateSeq s.heap.objs.size (fun _ => #[]) >>= fun _ => letGo (#[] : Array Value).toList.reverse >>= fun _ => Builtin.List.listExtendWith (.ref s.heap.objs.size) (.ref it) .none) _ _ _
  refine wpAny_bind (wpAny_updateSeq hS rfl ?_)
  have hS₂ := Heap.get?_update_self (Obj.mapSeq (fun _ => (#[] : Array Value))) hS rfl
  have oth : ∀ b o, b ≠ s.heap.objs.size → s.heap.get? b = some o → ((s.heap.push { cls := .type "list", data := .seq #[] }).update s.heap.objs.size (Obj.mapSeq (fun _ => (#[] : Array Value)))).get? b = some o :=
    fun b o hb e => (Heap.get?_update_other _ _ (Ne.symm hb)).trans (Heap.get?_push_of_some _ e)
  refine wpAny_bind (wpAny_letGo ?_)
  refine listrev_extend (A := A.in1) hh (hit.at fun o e => oth it o hSi.symm e) ⟨ol, oth l ol hSl.symm hol, hol2⟩ hne hn s.heap.objs.size hSi hSl _ hS₂ fun h' tk acc' c' hk hS' hacc => ?_
  exact ⟨rfl, hQ h' tk acc' c' (fun b o hb e => hk b o (Nat.ne_of_lt (Heap.lt_size e)) hb (oth b o (Nat.ne_of_lt (Heap.lt_size e)) e)) hS' hacc⟩
theorem pick_rev (xs : Array Value) : ((List.range xs.size).filterMap fun (m : Nat) => xs[(((xs.size : Nat) : Int) - 1 + (m : Int) * -1).toNat]?).toArray = xs.toList.reverse.toArray := by
  have e : (fun (m : Nat) => xs[(((xs.size : Nat) : Int) - 1 + (m : Int) * -1).toNat]?) = (fun x => xs[x]?) ∘ fun m => xs.size - 1 - m := by
    funext m
    have : (((xs.size : Nat) : Int) - 1 + (m : Int) * -1).toNat = xs.size - 1 - m := by omega
    show xs[_]? = xs[_]?
    rw [this]
  rw [e, ← List.filterMap_map, PySem.W.krv_range, List.filterMap_reverse, PySem.W.krv_all]
theorem places_rev (n : Nat) : Builtin.Slice.slicePlaces ((n : Int) - 1) (-1) (-1) = n := by
  unfold Builtin.Slice.slicePlaces
  have h1 : ¬ ((-1 : Int) > 0) := by omega
  rw [if_neg h1]
  by_cases h : (n : Int) - 1 > -1
  · rw [if_pos h]
    have : ((n : Int) - 1 - -1 - 1) / (- -1) + 1 = (n : Int) := by
      rw [show (- -1 : Int) = 1 by rfl, Int.ediv_one]
      omega
    rw [this]
    exact Int.toNat_natCast n
  · rw [if_neg h]
    omega
theorem sliceApplied_rev {sl : Addr} {vl vu vs : Value} {n : Nat} {Q : Int × Int × Nat → Shared → Prop} (hs : s.heap.IsSliceOf sl vl vu vs) (pl : IsPart vl none) (pu : IsPart vu none) (ps : IsPart vs (some (-1)))
    (h : Q ((n : Int) - 1, -1, n) s) : wpAny (model prog w) A (Builtin.Slice.sliceApplied (.ref sl) (pure (n : Int))) Q E s := by
  obtain ⟨os, hos, hcs, hds⟩ := id hs
  unfold Builtin.Slice.sliceApplied Builtin.Slice.sliceFields
  refine wpAny_bind (wpAny_bind (wpAny_field hos hds (x := vl) rfl (wpAny_bind (wpAny_field hos hds (x := vu) rfl (wpAny_bind (wpAny_field hos hds (x := vs) rfl (wpAny_pure ?_)))))))
  refine wpAny_bind (HT.slicePart_ ps ?_)
  show wpAny _ _ (if ((-1 : Int) == 0) = true then _ else _) _ _ s
  rw [if_neg (by decide)]
  refine wpAny_bind (HT.slicePart_ pl (wpAny_bind (HT.slicePart_ pu (wpAny_bind (wpAny_pure ?_)))))
  show wpAny _ _ (pure ((n : Int) - 1, (-1 : Int), Builtin.Slice.slicePlaces ((n : Int) - 1) (-1) (-1))) _ _ s
  rw [places_rev]
  exact wpAny_pure h
theorem getItem_tuple_rev {t sl : Addr} {items : Array Value} {vl vu vs : Value} {Q : Value → Shared → Prop} (ht : IsTup s.heap t items) (hs : s.heap.IsSliceOf sl vl vu vs) (pl : IsPart vl none) (pu : IsPart vu none) (ps : IsPart vs (some (-1)))
    (h : Q (.ref s.heap.objs.size) { s with heap := s.heap.push { cls := .type "tuple", data := .seq items.toList.reverse.toArray } })
    (hsz : items.size ≤ sizeLine) : wpAny (model prog w) A (getItem (.ref t) (.ref sl)) Q E s := by
  have htake : sizeOk (.seq items.toList.reverse.toArray) := by
    show items.toList.reverse.toArray.size ≤ sizeLine
    simpa using hsz
  obtain ⟨os, hos, hcs, hds⟩ := id hs
  have hTs : s.TypeIs (.ref sl) "slice" := ⟨os, hos, hcs⟩
  unfold getItem
  try with_reducible refine wpAny_holding ?_
  first | refine wpAny_bind (wpAny_pure ?_) | skip
  refine wpAny_bind (wpAny_sequenceKey ht.typeIs (by decide) ?_)
  refine wpAny_bind (wpAny_callSpecial?_slot (name := Str.ofString "__getitem__") ht.typeIs PyProof.Rows.slot_tuple_getitem
    (wpAny_call_entry PyProof.Rows.slot_tuple_getitem ht.typeIs entry_tuple_getitem ?_ (args_tuple_getitem _ _)))
  show wpAny _ _ (Builtin.Tuple.tupleItemsOf (.ref t) >>= _) _ _ s
  refine wpAny_bind (tupleItemsOf_ ht ?_)
  refine wpAny_bind (wpAny_typeOf hTs ?_)
  rw [if_pos (by decide)]
  refine wpAny_bind (sliceApplied_rev hs pl pu ps ?_)
  have hno : ¬ ((((items.size : Int) - 1) == 0 && (-1 : Int) == 1 && items.size == items.size) = true) := by
    intro q
    rw [Bool.and_eq_true, Bool.and_eq_true] at q
    exact absurd q.1.2 (by decide)
  show wpAny _ _ (if ((((items.size : Int) - 1) == 0 && (-1 : Int) == 1 && items.size == items.size)) = true then _ else _) _ _ s
  rw [if_neg hno, pick_rev]
  first
    | exact wpAny_bind (m := Builtin.Tuple.tupleExact _) (wpAny_newObj_type (wpAny_pure ⟨_, rfl, wpAny_pure h⟩) htake)
    | exact wpAny_bind (m := Builtin.Tuple.tupleExact _) (wpAny_newObj_type (wpAny_bind (wpAny_pure (wpAny_pure ⟨_, rfl, wpAny_pure h⟩))) htake)
    | exact wpAny_bind (wpAny_bind (m := Builtin.Tuple.tupleExact _) (wpAny_newObj_type (wpAny_pure (wpAny_pure ⟨_, rfl, wpAny_pure h⟩)) htake))
    | exact wpAny_bind (wpAny_bind (m := Builtin.Tuple.tupleExact _) (wpAny_newObj_type (wpAny_pure ⟨_, rfl, wpAny_pure h⟩) htake))
end
section
variable {X : Cx} {T : Fx} {W : WX} {e a b d : Expr} {A B C : Opd} {p p2 pos pos2 : Pos}
/-- list(reversed(x)), x a list -/
def tListRev (K : PySem.W.Frag) (te : TE) : TE := fun σ H Q => te σ H fun v H1 => ∃ (a : Addr) (xs : List V), v = .ref a ∧ SqL K H1 a xs ∧ ∀ q, H1 q = none → Q (.ref q) (upd H1 q (.lst xs.reverse))
theorem pe_listRev {te : TE} (hc : X.calm = true) (hg : Gl X "list") (hm : X.mg "list" = none) (hg2 : Gl X "reversed") (hm2 : X.mg "reversed" = none) (he : PE X e te)
    (hs : starEach [e] X.env = (false, eval e X.env) :: starEach [] X.env)
    (hs2 : starEach [.Call (.Name "reversed" p2) [e] [] pos2] X.env = (false, eval (.Call (.Name "reversed" p2) [e] [] pos2) X.env) :: starEach [] X.env := by rfl) :
    PE X (.Call (.Name "list" p) [.Call (.Name "reversed" p2) [e] [] pos2] [] pos) (tListRev X.K te) := by
  refine ⟨fun pins s σ H Q I h => ?_⟩
  refine Call_ (ld_blt I hg hm boot_list (PyProof.Rows.callWith_type1 (args_cons (Call_ (ld_blt I hg2 hm2 PyProof.Rows.boot_reversed (PyProof.Rows.callWith_type1 (args_cons (thn (he.run pins s σ H _ I h) fun u s1 ⟨v, H1, I1, r1, q1⟩ => args_nil ?_) hs) hs rfl))) hs2) hs2 rfl))
  obtain ⟨a, xs, ev, hq, q⟩ := q1
  subst ev
  obtain rfl : u = Value.ref a := r1
  obtain ⟨its, rv, p', hz⟩ := I1.list hq
  refine call_reversed_list p'.isList (args_nil ?_)
  have k0 : ∀ b o, s1.heap.get? b = some o → (s1.heap.push (revObj a ((its.toArray.size : Int) - 1))).get? b = some o := fun b o e => Heap.get?_push_of_some _ e
  have I2 : Inv X pins σ H1 { s1 with heap := s1.heap.push (revObj a ((its.toArray.size : Int) - 1)) } := I1.kept (t' := s1.toks) k0
  obtain ⟨f0, f1, f2, f3, f4, f5⟩ := I1.fpOk (H' := H1) (b := s1.heap.objs.size) (Nat.le_refl _) (I1.hok.fresh (Nat.le_refl _))
  have hl := p'.isList
  obtain ⟨ol, hol, _⟩ := id hl
  have hne : a ≠ s1.heap.objs.size := Nat.ne_of_lt (Heap.lt_size hol)
  have hn : its.toArray.size ≤ sizeLine := by rw [List.size_toArray, ← rv.length]; exact hz
  have hsz : (s1.heap.push (revObj a ((its.toArray.size : Int) - 1))).objs.size = s1.heap.objs.size + 1 := Heap.size_push _ _
  refine call_list_rev (s := { s1 with heap := s1.heap.push (revObj a ((its.toArray.size : Int) - 1)) }) (I1.ok.hd hc) ⟨_, Heap.get?_push_size _ rfl, rfl, rfl⟩ (hl.push _) hne hn fun h' tk acc c hk hS hi => ?_
  have I3 : Inv X pins σ H1 { s1 with heap := h', toks := tk } := I2.turned (t' := tk) (fun b o hb e => hk b o hb e) f0 f1 f3 f4 f5
  have hnew : H1 (s1.heap.push (revObj a ((its.toArray.size : Int) - 1))).objs.size = none := I2.hok.fresh (Nat.le_refl _)
  refine ⟨.ref _, upd H1 (s1.heap.push (revObj a ((its.toArray.size : Int) - 1))).objs.size (.lst xs.reverse), ?_, rfl, q _ hnew⟩
  exact I3.take (t' := tk) (h' := h') (fun _ _ _ e => e) (I2.fpOk (Nat.le_refl _) hnew) (show ObjOk X.prog X.w _ _ _ (.lst xs.reverse) from ⟨by rw [List.length_reverse]; exact hz, acc.toList, c, RT.vals_rev rv hi, by rw [Array.toArray_toList]; exact hS⟩)
def pRevL : D → Option Sl
  | .list xs => some (.own (.lst xs.reverse))
  | _ => none
theorem pe_listRevD (hc : X.calm = true) (hg : Gl X "list") (hm : X.mg "list" = none) (hg2 : Gl X "reversed") (hm2 : X.mg "reversed" = none) (he : PO' X T W e A) (hs : noStar e = true) :
    PE X (.Call (.Name "list" p) [.Call (.Name "reversed" p2) [e] [] pos2] [] pos) (dT (cnOf X) T W (sOp1 pRevL A)) :=
  impPE (pe_listRev hc hg hm hg2 hm2 he.pe (starEach_cons hs)) fun σ H Q h => opd1 h fun G1 H1 v d r hv hs g1 g2 k => by
    cases d <;> first | (cases hs; done) | skip
    cases hs
    obtain ⟨l, vs, rfl, sv, rv⟩ := hv.list g1
    exact ⟨l, vs, rfl, sv, fun q hq => k_lst g1 g2 k rv.reverse hq⟩

/-! ### x[::-1] of lists and tuples -/
theorem pe_revLT {te : TE} {k : Nat} {p1 p3 : Pos} (he : PE X e te) : PE X (.Subscript e (.Slice none none (some (.UnaryOp .USub (.Constant (.int 1) k p1) p2)) p3) pos) (fun σ H Q => te σ H fun x H1 => ∃ a xs, x = .ref a ∧
    ((SqL X.K H1 a xs ∧ ∀ p, H1 p = none → Q (.ref p) (upd H1 p (.lst xs.reverse))) ∨ (SqT X.K H1 a xs ∧ ∀ p, H1 p = none → Q (.ref p) (upd H1 p (.tup xs.reverse))))) := by
  refine ⟨fun pins s σ H Q I h => ?_⟩
  refine Subscript_ (thn (he.run pins s σ H _ I h) fun v s1 ⟨x, H1, I1, r1, q1⟩ => ?_)
  obtain ⟨a, xs, ex, hq⟩ := q1
  subst ex
  cases r1
  have hst : PO X (some (.UnaryOp .USub (.Constant (.int 1) k p1) p2)) (tPart (tUn (rU fun i => .int (-i)) (tC (.int 1)))) := po_some (pe_un un_neg pe_int)
  refine wpAny_Slice (thn (po_none.run pins s1 σ H1 (fun o H2 => o = none ∧ H2 = H1) I1 ⟨rfl, rfl⟩) fun vl s2 ⟨l, H2, I2, pl, el, e2⟩ => ?_)
  subst el e2
  refine thn (po_none.run pins s2 σ H2 (fun o H3 => o = none ∧ H3 = H2) I2 ⟨rfl, rfl⟩) fun vu s3 ⟨u, H3, I3, pu, eu, e3⟩ => ?_
  subst eu e3
  refine thn (hst.run pins s3 σ H3 (fun o H4 => o = some (-1) ∧ H4 = H3) I3 ⟨1, rfl, -1, rfl, rfl, rfl⟩) fun vs s4 ⟨o, H4, I4, ps, eo, e4⟩ => ?_
  subst eo e4
  have I5 : Inv X pins σ H4 { s4 with heap := s4.heap.push { cls := .type "slice", data := .fields #[vl, vu, vs] } } := I4.kept (t' := s4.toks) fun b ob q => Heap.get?_push_of_some _ q
  show wpAny (model X.prog X.w) X.A (subscriptTail e (.Slice none none (some (.UnaryOp .USub (.Constant (.int 1) k p1) p2)) p3) (.ref a) (.ref s4.heap.objs.size)) (EP X pins σ Q) X.xe { s4 with heap := s4.heap.push { cls := .type "slice", data := .fields #[vl, vu, vs] } }
  rcases hq with ⟨hx, q⟩ | ⟨hx, q⟩
  · obtain ⟨its, r, ht, hz⟩ := I5.list hx
    have hlen := r.length
    refine tail_any (ops := [.ref a, .ref s4.heap.objs.size]) ht.isList.typeIs (PySem.slot_list_getitem.lookup) ?_ (by with_unfolding_all rfl)
    refine wpAny_getItem_list_slice ht.isList (Heap.IsSliceOf.new _ vl vu vs) pl pu ps (by decide) ?_ (by rw [List.size_toArray]; omega)
    rw [PySem.W.krv_pick]
    refine ⟨.ref _, _, I5.laid (t' := s4.toks) (o := .lst xs.reverse) (fun b ob q => Heap.get?_push_of_some _ q) (Nat.le_refl _) ?_, rfl, q _ (I5.hok.fresh (Nat.le_refl _))⟩
    exact ⟨by rw [List.length_reverse]; exact hz, _, 0, r.reverse, Heap.get?_push_size _ rfl⟩
  · obtain ⟨its, r, ht, hz⟩ := I5.tuple hx
    have hlen := r.length
    refine tail_any (ops := [.ref a, .ref s4.heap.objs.size]) ht.typeIs (PyProof.Rows.slot_tuple_getitem.lookup) ?_ (by with_unfolding_all rfl)
    refine getItem_tuple_rev ht (Heap.IsSliceOf.new _ vl vu vs) pl pu ps ?_ (by rw [List.size_toArray]; omega)
    refine ⟨.ref _, _, I5.laid (t' := s4.toks) (o := .tup xs.reverse) (fun b ob q => Heap.get?_push_of_some _ q) (Nat.le_refl _) ?_, rfl, q _ (I5.hok.fresh (Nat.le_refl _))⟩
    exact ⟨by rw [List.length_reverse]; exact hz, _, r.reverse, IsTup.new _ _⟩
def pRev : D → Option Sl
  | .list xs => some (.own (.lst xs.reverse))
  | .tuple xs => some (.val (.tuple xs.reverse))
  | _ => none
theorem pe_revD {k : Nat} {p1 p3 : Pos} (he : PO' X T W e A) : PE X (.Subscript e (.Slice none none (some (.UnaryOp .USub (.Constant (.int 1) k p1) p2)) p3) pos) (dT (cnOf X) T W (sOp1 pRev A)) := by
  refine ⟨fun pins s σ H Q I h => ?_⟩
  have h0 := h
  -- which of the two it is, is known only behind the operand: both rules are asked for at once
  refine (pe_revLT he.pe).run pins s σ H Q I ?_
  exact opd1 h fun G1 H1 v d r hv hs g1 g2 k => by
    cases d <;> first | (cases hs; done) | skip
    · cases hs
      obtain ⟨l, vs, rfl, sv, rv⟩ := hv.list g1
      exact ⟨l, vs, rfl, .inl ⟨sv, fun q hq => k_lst g1 g2 k rv.reverse hq⟩⟩
    · cases hs
      obtain ⟨l, vs, rfl, sv, rv⟩ := hv.tuple g1
      exact ⟨l, vs, rfl, .inr ⟨sqt_mono g1 sv, fun q hq => k_tup g1 g2 k rv.reverse hq⟩⟩
end
end Sd
set_option Elab.async false
set_option linter.all false
set_option maxRecDepth 100000
set_option maxHeartbeats 4000000
set_option autoImplicit false
/-! Sd: chains, parallel stores, stars. -/
namespace Sd
open PySem PySem.Spec PyProof.Rows L2

/-- a op1 b op2 c -/
def sCh (p p' : D → D → Option Sl) (A B C : Opd) : M Sl := fun ρ => (A.ph1 ρ).bind fun x ρ1 => (B.ph1 ρ1).bind fun y ρ2 => match ((A.ph2 x ρ2).bind fun d => (B.ph2 y ρ2).bind (p d)).bind boolD with
  | none => .bad
  | some false => .ok (.val (.bool false)) ρ2
  | some true => (C.ph1 ρ2).bind fun z ρ3 => Res.ofO ((B.ph2 y ρ3).bind fun d => (C.ph2 z ρ3).bind (p' d)) ρ3
section
variable {X : Cx} {T : Fx} {W : WX} {e a b c : Expr} {es : List Expr} {A B C : Opd} {p p' : D → D → Option Sl} {pos : Pos} {f g : M Sl} {as : M (List D)}
theorem imp_ch {cn : Cn} {σ : St} {H : Hp} {Q : VK} (h : dT cn T W (sCh p p' A B C) σ H Q) : tChain (rD cn p) (rD cn p') (tO cn T W A) (tO cn T W B) (tO cn T W C) σ H Q := by
  obtain ⟨O, G, ρ, hold, h⟩ := h
  unfold sCh at h
  refine opd_step hold ?_
  cases e1 : A.ph1 ρ with
  | bad => rw [e1] at h; exact h
  | exc x ρ' => rw [e1] at h; exact h
  | ok x ρ1 =>
    rw [e1] at h
    simp only [Res.bind_ok] at h
    intro v G1 H1 tr1 hold1 ov1
    refine opd_step hold1 ?_
    cases e2 : B.ph1 ρ1 with
    | bad => rw [e2] at h; exact h
    | exc x ρ' => rw [e2] at h; exact fun G' H' tr hd => h G' H' (tr1.trans' tr) hd
    | ok y ρ2 =>
      rw [e2] at h
      simp only [Res.bind_ok] at h
      intro w G2 H2 tr2 hold2 ov2
      cases q1 : A.ph2 x ρ2 with
      | none => rw [q1] at h; exact h.elim
      | some d =>
      cases q2 : B.ph2 y ρ2 with
      | none => rw [q1, q2] at h; exact h.elim
      | some e =>
      rw [q1, q2] at h
      simp only [Option.bind_some] at h
      cases q3 : p d e with
      | none => rw [q3] at h; exact h.elim
      | some r =>
      rw [q3] at h
      simp only [Option.bind_some] at h
      cases q4 : boolD r with
      | none => rw [q4] at h; exact h.elim
      | some k =>
      rw [q4] at h
      refine ⟨G2, d, e, r, hold2.sub, hold2.ntb, (ov1.mono tr2.g).view hold2 q1, ov2.view hold2 q2, q3, fun u G3 H3 tn rr => ?_⟩
      rw [boolD_some q4] at rr
      cases rr
      refine ⟨k, rfl, ?_⟩
      have hold3 := hold2.trn tn
      have tr3 := (tr1.trans' tr2).trans' tn.tr
      cases k with
      | false => exact h _ G3 H3 tr3 hold3 (.bl false)
      | true =>
        rw [if_pos rfl]
        simp only at h
        refine opd_step hold3 ?_
        cases e3 : C.ph1 ρ2 with
        | bad => rw [e3] at h; exact h
        | exc x ρ' => rw [e3] at h; exact fun G' H' tr hd => h G' H' (tr3.trans' tr) hd
        | ok z ρ3 =>
          rw [e3] at h
          simp only [Res.bind_ok] at h
          intro w3 G4 H4 tr4 hold4 ov3
          cases q5 : B.ph2 y ρ3 with
          | none => rw [q5] at h; exact h.elim
          | some d' =>
          cases q6 : C.ph2 z ρ3 with
          | none => rw [q5, q6] at h; exact h.elim
          | some e' =>
          rw [q5, q6] at h
          simp only [Option.bind_some] at h
          cases q7 : p' d' e' with
          | none => rw [q7] at h; exact h.elim
          | some r' =>
          rw [q7] at h
          refine ⟨G4, d', e', r', hold4.sub, hold4.ntb, ((ov2.mono tn.g).mono tr4.g).view hold4 q5, ov3.view hold4 q6, q7, fun u5 G5 H5 tn5 rr5 => ?_⟩
          exact h u5 G5 H5 ((tr3.trans' tr4).trans' tn5.tr) (hold4.trn tn5) (rr5.back (tr3.trans' tr4).d)
theorem pe_chD {op op' : CmpOp} (ho : OpR X (compareOp op) (rD (cnOf X) p)) (ho' : OpR X (compareOp op') (rD (cnOf X) p')) (hm : lastMarks [op, op'] [b, c] = false) (ha : PO' X T W a A) (hb : PO' X T W b B) (hc : PO' X T W c C) :
    PE X (.Compare a [op, op'] [b, c] pos) (dT (cnOf X) T W (sCh p p' A B C)) := impPE (pe_chain ho ho' ha.pe hb.pe hc.pe hm) fun σ H Q h => imp_ch h
theorem pt_chD {op op' : CmpOp} (ho : OpR X (compareOp op) (rD (cnOf X) p)) (ho' : OpR X (compareOp op') (rD (cnOf X) p')) (hm : lastMarks [op, op'] [b, c] = false) (ha : PO' X T W a A) (hb : PO' X T W b B) (hc : PO' X T W c C) :
    PT X (.Compare a [op, op'] [b, c] pos) (dB (cnOf X) T W (bVal (sCh p p' A B C))) := impPT (pt_chain ho ho' ha.pe hb.pe hc.pe hm) fun σ H Q h => imp_ch (imp_val h)
theorem pt_cmpD {op : CmpOp} (ho : OpR X (compareOp op) (rD (cnOf X) p)) (hm : behindInMarks op b = false) (ha : PO' X T W a A) (hb : PO' X T W b B) : PT X (.Compare a [op] [b] pos) (dB (cnOf X) T W (bVal (sOp2 p A B))) :=
  impPT (pt_cmpR ho ha.pe hb.pe hm) fun σ H Q h => by
    have h' := imp_val h
    exact opd2 h' fun O G ρ G1 H1 v w d e s _ _ hv hw hs g1 g2 k => op2_rD _ p G1 H1 v w d e s _ g1 g2 hv hw hs k
/-! stars -/
theorem pa_sD {p0 : Pos} (ha : PE X e (dT (cnOf X) T W f)) (hr : PA X es (dA (cnOf X) T W as)) : PA X (.Starred e p0 :: es) (dA (cnOf X) T W (aS f as)) :=
  impPA (StX.pa_star ha hr rfl) fun σ H Q h => by
    obtain ⟨O, G, ρ, hold, h⟩ := h
    refine ⟨O, G, ρ, hold, ?_⟩
    unfold aS at h
    cases q : f ρ with
    | bad => rw [q] at h; exact h
    | exc x ρ' => rw [q] at h; exact h
    | ok r ρ1 =>
      rw [q] at h
      simp only [Res.bind_ok] at h
      intro v G1 H1 t1 hold1 rr
      obtain ⟨G2, s2, t2, hold2, r2⟩ := hold1.frzR hold.oin t1 rr
      cases q2 : r.frz with
      | list ds =>
        rw [q2] at h r2
        simp only [seqD] at h
        cases r2 with
        | lst sq rs =>
          refine ⟨_, _, rfl, .inr (Same.seq hold2.sub sq), O, G2, ρ1, hold2, ?_⟩
          have h' := WtA.later t2 h
          cases q3 : as ρ1 with
          | bad => rw [q3] at h'; exact h'
          | exc x ρ' => rw [q3] at h'; exact h'
          | ok es ρ2 =>
            rw [q3] at h'
            exact fun vs G3 H3 t3 hold3 rs3 => h' _ G3 H3 t3 hold3 ((rs.mono t3.g).append rs3)
      | tuple ds =>
        rw [q2] at h r2
        simp only [seqD] at h
        cases r2 with
        | tup sq rs =>
          refine ⟨_, _, rfl, .inl (sqt_mono hold2.sub sq), O, G2, ρ1, hold2, ?_⟩
          have h' := WtA.later t2 h
          cases q3 : as ρ1 with
          | bad => rw [q3] at h'; exact h'
          | exc x ρ' => rw [q3] at h'; exact h'
          | ok es ρ2 =>
            rw [q3] at h'
            exact fun vs G3 H3 t3 hold3 rs3 => h' _ G3 H3 t3 hold3 ((rs.mono t3.g).append rs3)
      | _ => rw [q2] at h; exact h.elim
end
/-! ### x, y = a, b -/
def setS (i : Nat) (r : Sl) (ρ : Ev) : Ev := ρ.set i (some r)
def mPar2 (i j : Nat) (f g : M Sl) : MS := fun ρ => (f ρ).out fun r ρ1 => (g ρ1).out fun s ρ2 => .nx ((ρ2.set i (some r)).set j (some s))
/-- a result stays one -/
theorem RepR.keep {c : Cn} {T : Fx} {O : Addr → Prop} {H0 G H G' H' : Hp} {σ : St} {ρ : Ev} {v : V} {r : Sl} (q : RepR c H0 G H v r) (h0 : ∀ a, O a → H0 a ≠ none) (t : Tr O G H G' H') : RepR c H0 G' H' v r := by
  cases r with
  | val d => exact Rep.mono t.g q
  | own o =>
    obtain ⟨a, rfl, n0, hg, ob⟩ := q
    obtain ⟨u, hu, ht, _⟩ := ob.there
    have hO : ¬ O a := fun z => h0 a z n0
    refine ⟨a, rfl, n0, ?_, ob.mono t.g ((t.k a u hu hO ht).trans hu.symm)⟩
    cases z : G' a with
    | none => rfl
    | some w =>
      rcases t.n a w z with y | y | y
      · rw [hg] at y; cases y
      · rw [hu] at y; cases y
      · exact (hO y).elim
/-- a store of a result -/
theorem Hold.setR {c : Cn} {T : Fx} {O : Addr → Prop} {G H H0 : Hp} {σ : St} {ρ : Ev} {i : Nat} {v : V} {r : Sl} (h : Hold c T O G σ H ρ) (hi : i < σ.length) (hO : ∀ a, v = .ref a → (∃ o, r = .own o) → ¬ O a) (q : RepR c H0 G H v r) (hL : ∀ p ∈ T.L, p.1 ≠ i) :
    ∃ O' : Addr → Prop, (∀ a, O' a → O a ∨ H0 a = none) ∧ (∀ a, O' a → O a ∨ (v = .ref a ∧ ∃ o, r = .own o)) ∧ Hold c T O' G (σ.set i (some v)) H (ρ.set i (some r)) := by
  cases r with
  | val d => exact ⟨O, fun _ z => .inl z, fun _ z => .inl z, h.setV q hL⟩
  | own o =>
    obtain ⟨a, rfl, n0, hg, ob⟩ := q
    exact ⟨fun x => O x ∨ x = a, fun x hx => hx.elim .inl fun z => by rw [z]; exact .inr n0, fun x hx => hx.elim .inl fun z => by rw [z]; exact .inr ⟨rfl, _, rfl⟩, h.setO hi (hO a rfl ⟨_, rfl⟩) hg ob hL⟩
section
variable {X : Cx} {T : Fx} {W : WX} {a b : Expr} {i j : Nat} {f g : M Sl} {x y : Str} {px py pt pos pt2 : Pos} {kt k2 : Nat}
/-- the two values -/
def tPair (c : Cn) (T : Fx) (W : WX) (f g : M Sl) : TA := tCons (dT c T W f) (tCons (dT c T W g) tNil)
theorem imp_par {c : Cn} {E : Ends} {σ : St} {H : Hp} (hi : i < σ.length) (hj : j < σ.length) (hLi : ∀ p ∈ T.L, p.1 ≠ i) (hLj : ∀ p ∈ T.L, p.1 ≠ j) (h : dS c T W (mPar2 i j f g) E σ H) : tPar i j (tPair c T W f g) E σ H := by
  obtain ⟨O, G, ρ, hold, h⟩ := h
  refine ⟨O, G, ρ, hold, ?_⟩
  unfold mPar2 at h
  cases q : f ρ with
  | bad => rw [q] at h; exact h
  | exc x ρ' => rw [q] at h; exact fun G' H' tr hd => h O G' σ H' (fun _ z => .inl z) tr hd
  | ok r ρ1 =>
  rw [q] at h
  simp only [Res.out_ok] at h
  intro v G1 H1 t1 hold1 rv
  refine ⟨O, G1, ρ1, hold1, ?_⟩
  cases q2 : g ρ1 with
  | bad => rw [q2] at h; exact h
  | exc x ρ' => rw [q2] at h; exact fun G' H' tr hd => h O G' σ H' (fun _ z => .inl z) (t1.trans' tr) hd
  | ok s ρ2 =>
  rw [q2] at h
  simp only [Res.out_ok] at h
  intro w G2 H2 t2 hold2 rw_
  refine ⟨v, w, rfl, ?_⟩
  have rv2 : RepR c H G2 H2 v r := RepR.keep (T := T) (σ := σ) (ρ := ρ) rv hold.oin t2
  have rw2 : RepR c H G2 H2 w s := rw_.back t1.d
  have hO : ∀ {v : V} {r : Sl}, RepR c H G2 H2 v r → ∀ a, v = .ref a → (∃ o, r = .own o) → ¬ O a := fun {v r} q a e1 ⟨o, e2⟩ z => by
    subst e2
    obtain ⟨a', e3, n0, _⟩ := q
    rw [e1] at e3; cases e3
    exact hold.oin a z n0
  obtain ⟨O1, o1, o1', hd1⟩ := hold2.setR hi (hO rv2) rv2 hLi
  have hO2 : ∀ a, w = .ref a → (∃ o, s = .own o) → ¬ O1 a := fun a e1 ⟨o, e2⟩ z => by
    rcases o1' a z with z | ⟨e3, o', e4⟩
    · exact hO rw2 a e1 ⟨o, e2⟩ z
    · subst e2
      subst e4
      obtain ⟨a1, e5, n1, _⟩ := rw_
      rw [e1] at e5; cases e5
      obtain ⟨a2, e6, n2, _, ob⟩ := rv
      rw [e3] at e6; cases e6
      obtain ⟨u, hu, _⟩ := ob.there
      rw [n1] at hu; cases hu
  obtain ⟨O2, o2, _, hd2⟩ := hd1.setR (H0 := H) (by rw [List.length_set]; exact hj) hO2 rw2 hLj
  exact h O2 G2 _ H2 (fun a z => (o2 a z).elim (o1 a) .inr) (t1.trans' t2) hd2
theorem ps_par2D (hc : X.calm = true) (hN : X.N.Nodup) (hi : X.N[i]? = some x) (hj : X.N[j]? = some y) (hij : i ≠ j) (hx : X.env.scope.names.lookup x = some .local) (hy : X.env.scope.names.lookup y = some .local) (hLi : ∀ p ∈ T.L, p.1 ≠ i) (hLj : ∀ p ∈ T.L, p.1 ≠ j)
    (ha : PE X a (dT (cnOf X) T W f)) (hb : PE X b (dT (cnOf X) T W g)) (hsa : noStar a = true) (hsb : noStar b = true)
    (hw : swappedStores [.Tuple [.Name x px, .Name y py] kt pt] (.Tuple [a, b] k2 pt2) X.env = pure (some [x, y]))
    (hs : swapsWithSole [.Tuple [.Name x px, .Name y py] kt pt] (.Tuple [a, b] k2 pt2) pos.line X.env = pure false := by rfl) :
    PS X (.Assign [.Tuple [.Name x px, .Name y py] kt pt] (.Tuple [a, b] k2 pt2) pos) (dS (cnOf X) T W (mPar2 i j f g)) :=
  impPSL (ps_par hc hN hi hj hij hx hy (pa_cons ha (pa_cons hb pa_nil (starEach_cons hsb)) (starEach_cons hsa)) hw hs) fun E σ H hl h => imp_par (by rw [hl]; exact lt_of_get hi) (by rw [hl]; exact lt_of_get hj) hLi hLj h
end
end Sd
set_option Elab.async false
set_option linter.all false
set_option maxRecDepth 100000
set_option maxHeartbeats 4000000
set_option autoImplicit false
/-! Sd: for over a name; small helps. -/
namespace Sd
open PySem PySem.Spec PyProof.Rows L2

open Classical in
noncomputable def forItemsO (i : Nat) (t : Tgt) (body : MS) (L : List D) : List D → MS
  | [] => fun ρ => .nx ρ
  | d :: ds => fun ρ => if ρ[i]? = some (some (.own (.lst L))) then (match assignT t d ρ with
    | some ρ1 => (body ρ1).turn (fun ρ2 => if ρ2[i]? = some (some (.own (.lst L))) then forItemsO i t body L ds ρ2 else .bad)
    | none => .bad) else .bad
noncomputable def mForO (i : Nat) (t : Tgt) (body : MS) : MS := fun ρ => match ρ[i]? with
  | some (some (.own (.lst L))) => forItemsO i t body L L ρ
  | _ => .bad
def Fx.pin (T : Fx) (i : Nat) (a : Addr) : Fx := ⟨T.tabs, (i, a) :: T.L⟩
theorem Hold.pin {c : Cn} {T : Fx} {O : Addr → Prop} {G H : Hp} {σ : St} {ρ : Ev} {i : Nat} {a : Addr} (h : Hold c T O G σ H ρ) (e : σ[i]? = some (some (.ref a))) : Hold c (T.pin i a) O G σ H ρ :=
  ⟨h.sub, h.ntb, h.oin, h.tab, fun p hp => by
    rcases List.mem_cons.mp hp with rfl | hp
    · exact e
    · exact h.lnt p hp, h.len, h.slot, h.apart⟩
theorem Hold.unpin {c : Cn} {T : Fx} {O : Addr → Prop} {G H : Hp} {σ : St} {ρ : Ev} {i : Nat} {a : Addr} (h : Hold c (T.pin i a) O G σ H ρ) : Hold c T O G σ H ρ :=
  ⟨h.sub, h.ntb, h.oin, h.tab, fun p hp => h.lnt p (List.mem_cons_of_mem _ hp), h.len, h.slot, h.apart⟩
theorem WtS.unpin {c : Cn} {T : Fx} {W : WX} {O : Addr → Prop} {G H : Hp} {σ : St} {i : Nat} {a : Addr} {x : Out} {E : Ends} (h : WtS c T W O G σ H x E) : WtS c (T.pin i a) W O G σ H x E := by
  cases x with
  | nx ρ' => exact fun O' G' σ' H' ho t hd => h O' G' σ' H' ho t hd.unpin
  | bk ρ' => exact fun O' G' σ' H' ho t hd => h O' G' σ' H' ho t hd.unpin
  | ct ρ' => exact fun O' G' σ' H' ho t hd => h O' G' σ' H' ho t hd.unpin
  | exc e ρ' => exact fun O' G' σ' H' ho t hd => h O' G' σ' H' ho t hd.unpin
  | rt r ρ' =>
    refine fun v O' G' σ' H' ho t hd rr => h v O' G' σ' H' ho t hd.unpin ?_
    cases r with
    | val d => exact rr
    | own o =>
      obtain ⟨b, e, h1, h2⟩ := rr
      exact ⟨b, e, h1.imp id fun z => absurd z.1 (by simp [Fx.pin]), h2⟩
  | bad => exact h
section
variable {T : Fx} {W : WX} {m : MS} {i : Nat}
theorem imp_forO {c : Cn} {tt : Tgt} {E : Ends} {σ : St} {H : Hp} {O : Addr → Prop} {G : Hp} {ρ : Ev} {L : List D} {a : Addr} (hold : Hold c T O G σ H ρ) (hL : ρ[i]? = some (some (.own (.lst L)))) (ea : σ[i]? = some (some (.ref a))) (hi : i ∉ tt.slots) (h : WtS c T W O G σ H (forItemsO i tt m L L ρ) E) :
    tFor (iList c.K (tVar i)) (dG c (T.pin i a) tt) (dS c (T.pin i a) W m) E σ H := by
  obtain ⟨a0, ea0, hO, hg, vs, hvs, rvs⟩ := hold.at_own hL
  rw [ea] at ea0; cases ea0
  refine ⟨.ref a, ea, a, rfl, ⟨vs, .of hvs⟩, ?_⟩
  refine ⟨fun j k σ' H' => k = L.length - j ∧ j ≤ L.length ∧ ∃ O' G' ρ', Hold c (T.pin i a) O' G' σ' H' ρ' ∧ ρ'[i]? = some (some (.own (.lst L))) ∧ WtS c (T.pin i a) W O' G' σ' H' (forItemsO i tt m L (L.drop j) ρ') E,
    ⟨L.length, by simp, Nat.zero_le _, O, G, ρ, hold.pin ea, hL, by simpa using h.unpin⟩, ?_⟩
  rintro j k σ' H' ⟨rfl, hj, O', G', ρ', hold', hL', h'⟩
  obtain ⟨a', ea2, hO', hg', vs', hvs', rvs'⟩ := hold'.at_own hL'
  have ea' : σ'[i]? = some (some (.ref a)) := hold'.lnt (i, a) (List.mem_cons_self)
  rw [ea'] at ea2; cases ea2
  by_cases hlt : j < L.length
  · right
    obtain ⟨v, ev, rv⟩ := rvs'.get j (List.getElem?_eq_getElem hlt)
    refine ⟨⟨vs', v, .of hvs', ev⟩, ?_⟩
    have hd : L.drop j = L[j] :: L.drop (j + 1) := List.drop_eq_getElem_cons hlt
    rw [hd] at h'
    simp only [forItemsO] at h'
    rw [if_pos hL'] at h'
    refine ⟨fun σ2 H2 => ∃ O2 G2 ρ2, Hold c (T.pin i a) O2 G2 σ2 H2 ρ2 ∧ ρ2[i]? = some (some (.own (.lst L))) ∧ WtS c (T.pin i a) W O2 G2 σ2 H2 (forItemsO i tt m L (L.drop (j + 1)) ρ2) E,
      fun σ2 H2 ⟨O2, G2, ρ2, a, b, c⟩ => ⟨L.length - (j + 1), by omega, rfl, hlt, O2, G2, ρ2, a, b, c⟩, ?_⟩
    rintro x H2 ⟨rfl, y2⟩
    have exv : x = v := by
      have := y2 vs' (.of hvs')
      rw [ev] at this
      exact (Option.some.inj this).symm
    subst exv
    cases q1 : assignT tt L[j] ρ' with
    | none => rw [q1] at h'; exact h'.elim
    | some ρ2 =>
    rw [q1] at h'
    simp only at h'
    refine ⟨O', G', ρ', _, hold', rv, ρ2, q1, fun σ3 hs3 _ hold3 => ⟨O', G', ρ2, hold3, ?_⟩⟩
    have h2 := WtS.later (O1 := O') (σ1 := σ3) (fun _ z => .inl z) .refl h'
    cases q2 : m ρ2 with
    | bad => rw [q2] at h2; exact h2
    | nx ρ3 =>
      rw [q2] at h2
      simp only [Out.turn_nx] at h2
      by_cases hc : ρ3[i]? = some (some (.own (.lst L)))
      · rw [if_pos hc] at h2
        exact fun O4 G4 σ4 H4 ho tr4 hd4 => ⟨O4, G4, ρ3, hd4, hc, WtS.later ho tr4 h2⟩
      · rw [if_neg hc] at h2; exact h2.elim
    | ct ρ3 =>
      rw [q2] at h2
      simp only [Out.turn_ct] at h2
      by_cases hc : ρ3[i]? = some (some (.own (.lst L)))
      · rw [if_pos hc] at h2
        exact fun O4 G4 σ4 H4 ho tr4 hd4 => ⟨O4, G4, ρ3, hd4, hc, WtS.later ho tr4 h2⟩
      · rw [if_neg hc] at h2; exact h2.elim
    | bk ρ3 => rw [q2] at h2; exact h2
    | rt r ρ3 => rw [q2] at h2; exact h2
    | exc e ρ3 => rw [q2] at h2; exact h2
  · left
    have hj' : j = L.length := by omega
    subst hj'
    rw [List.drop_length] at h'
    exact ⟨⟨vs', .of hvs', by rw [rvs'.length]; exact Nat.le_refl _⟩, h' O' G' σ' H' (fun _ z => .inl z) .refl hold'⟩
variable {X : Cx} {sts : List Stmt} {pos : Pos} {tg iter : Expr} {tt : Tgt}
theorem ps_forOD (hp : PassesOwn (model X.prog X.w) X.A X.env X.xe) (hc : X.calm = true) (hi : PE X iter (tVar i)) (hn : i ∉ tt.slots) (hg : ∀ a, PG X tg (dG (cnOf X) (T.pin i a) tt)) (hb : ∀ a, PSs X sts (dS (cnOf X) (T.pin i a) W m))
    (hs : ∀ x, foldedSetIterable iter X.env x = pure x := by intro _; rfl) : PS X (.For tg iter sts [] pos) (dS (cnOf X) T W (mForO i tt m)) := by
  refine ⟨fun pins s σ H E I h => ?_⟩
  obtain ⟨O, G, ρ, hold, h⟩ := h
  unfold mForO at h
  cases q : ρ[i]? with
  | none => rw [q] at h; exact h.elim
  | some os =>
  cases os with
  | none => rw [q] at h; exact h.elim
  | some sl =>
  cases sl with
  | val d => rw [q] at h; exact h.elim
  | own o =>
  cases o with
  | dct _ => rw [q] at h; exact h.elim
  | lst L =>
  rw [q] at h
  simp only at h
  obtain ⟨a, ea, _⟩ := hold.at_own q
  exact (ps_for hp hc (pi_list hi) (hg a) (hb a) hs).run pins s σ H E I (imp_forO hold q ea hn h)
end

/-! ### small helps -/
def bYes : M Bool := fun ρ => .ok true ρ
section
variable {X : Cx} {T : Fx} {W : WX} {e : Expr} {t : M Bool}
theorem pts_nD : PTs X [] (dB (cnOf X) T W bYes) := ⟨fun pins s σ H Q I h => by
  obtain ⟨O, G, ρ, hold, h⟩ := h
  exact pts_nil.run pins s σ H Q I (h G H .refl hold)⟩
theorem pts_1D (h : PT X e (dB (cnOf X) T W t)) : PTs X [e] (dB (cnOf X) T W t) := pts_one h
def LenIs (as : M (List D)) (n : Nat) : Prop := ∀ ρ ds ρ', as ρ = .ok ds ρ' → ds.length = n
theorem len_N : LenIs aN 0 := fun ρ ds ρ' h => by cases h; rfl
theorem len_C {f : M Sl} {as : M (List D)} {n : Nat} (h : LenIs as n) : LenIs (aC f as) (n + 1) := fun ρ ds ρ' e => by
  unfold aC at e
  cases q : f ρ with
  | bad => rw [q] at e; cases e
  | exc c ρ1 => rw [q] at e; cases e
  | ok r ρ1 =>
    rw [q] at e
    simp only [Res.bind_ok] at e
    cases q2 : as ρ1 with
    | bad => rw [q2] at e; cases e
    | exc c ρ2 => rw [q2] at e; cases e
    | ok es ρ2 =>
      rw [q2] at e
      cases e
      simp [h _ _ _ q2]
theorem hL0n {tabs : List Addr} {i : Nat} : ∀ p ∈ (⟨tabs, []⟩ : Fx).L, p.1 ≠ i := fun p hp => absurd hp (by simp)
theorem hL0m {tabs : List Addr} {l : List Nat} : ∀ p ∈ (⟨tabs, []⟩ : Fx).L, p.1 ∉ l := fun p hp => absurd hp (by simp)
theorem hLcn {tabs : List Addr} {L : List (Nat × Addr)} {a : Addr} {i j : Nat} (h : j ≠ i) (r : ∀ p ∈ (⟨tabs, L⟩ : Fx).L, p.1 ≠ i) : ∀ p ∈ (⟨tabs, (j, a) :: L⟩ : Fx).L, p.1 ≠ i := fun p hp => by
  rcases List.mem_cons.mp hp with rfl | hp
  · exact h
  · exact r p hp
theorem hLcm {tabs : List Addr} {L : List (Nat × Addr)} {a : Addr} {l : List Nat} {j : Nat} (h : j ∉ l) (r : ∀ p ∈ (⟨tabs, L⟩ : Fx).L, p.1 ∉ l) : ∀ p ∈ (⟨tabs, (j, a) :: L⟩ : Fx).L, p.1 ∉ l := fun p hp => by
  rcases List.mem_cons.mp hp with rfl | hp
  · exact h
  · exact r p hp
theorem room_g {k : Nat} {A : Around} {env : PySem.Env} (r : L2.Room (k + 3) A) : L2.Room k (A.in1.in1.deeper env) := (Room.in1 (Room.in1 r)).deeper env
def blkC (N : List Str) (sc scope : Scope) (own : List (Str × Nat)) : Bool :=
  decide (scope.kind = .function) && scope.names.all (fun y => decide (scope.names.lookup y.1 = some y.2)) && own.all (fun p => decide (N[p.2]? = some p.1)) &&
    scope.names.all (fun y => !decide (y.2 = .free) || decide (sc.names.lookup y.1 = some .cell) || decide (sc.names.lookup y.1 = some .free)) &&
    scope.names.all (fun y => !(decide (y.2 = .local) || decide (y.2 = .cell)) || (own.map (·.1)).contains y.1 || !N.contains y.1)
theorem blk_by {N : List Str} {sc scope : Scope} {own : List (Str × Nat)} (h : blkC N sc scope own = true) : BlkOk N sc scope own := by
  unfold blkC at h
  simp only [Bool.and_eq_true, List.all_eq_true, decide_eq_true_eq, Bool.or_eq_true, Bool.not_eq_true', decide_eq_false_iff_not, List.contains_iff_mem, Bool.or_eq_false_iff] at h
  obtain ⟨⟨⟨⟨h1, h2⟩, h3⟩, h4⟩, h5⟩ := h
  refine ⟨h1, h2, h3, fun y hy e => ?_, fun y hy e => ?_⟩
  · rcases h4 y hy with (z | z) | z
    · exact (z e).elim
    · exact .inl z
    · exact .inr z
  · rcases h5 y hy with (z | z) | z
    · exact (e.elim z.1 z.2).elim
    · exact .inl z
    · exact .inr fun q => by simp [q] at z
def gblkC (N : List Str) (sc scope : Scope) (own : List (Str × Nat)) : Bool :=
  decide (scope.kind = .function) && !scope.isCoroutine && own.all (fun p => decide (N[p.2]? = some p.1)) && decide (scope.names.lookup (".0" : Str) = some NameKind.local) && scope.names.all (fun y => !decide (y.2 = .cell)) && scope.names.all (fun y => decide (scope.names.lookup y.1 = some y.2)) &&
    scope.names.all (fun y => !decide (y.2 = .free) || decide (sc.names.lookup y.1 = some .cell) || decide (sc.names.lookup y.1 = some .free)) &&
    scope.names.all (fun y => !decide (y.2 = .local) || (own.map (·.1)).contains y.1 || !N.contains y.1)
theorem gblk_by {N : List Str} {sc scope : Scope} {own : List (Str × Nat)} (h : gblkC N sc scope own = true) : GBlk N sc scope own := by
  unfold gblkC at h
  simp only [Bool.and_eq_true, List.all_eq_true, decide_eq_true_eq, Bool.or_eq_true, Bool.not_eq_true', decide_eq_false_iff_not, List.contains_iff_mem] at h
  obtain ⟨⟨⟨⟨⟨⟨⟨h1, h2⟩, h3⟩, h4⟩, h5⟩, h6⟩, h7⟩, h8⟩ := h
  refine ⟨h1, h2, h3, h4, h5, h6, fun y hy e => ?_, fun y hy e => ?_⟩
  · rcases h7 y hy with (z | z) | z
    · exact (z e).elim
    · exact .inl z
    · exact .inr z
  · rcases h8 y hy with (z | z) | z
    · exact (z e).elim
    · exact .inl z
    · exact .inr fun q => by simp [q] at z
theorem pe_kI {x : Str} {p : Pos} {i : Int} {t : Tok} (hm : X.mg x = some (.int i t)) (hg : Gl X x) (hd : (x == ("__debug__" : Str)) = false := by decide) : PE X (.Name x p) (dT (cnOf X) T W (sC (.int i))) := pe_cD (pe_glob (v := .int i) hg hm ⟨t, rfl⟩ hd) fun _ => .int i
theorem pe_kS {x y : Str} {p : Pos} {t : Tok} (hm : X.mg x = some (.str y t)) (hg : Gl X x) (hd : (x == ("__debug__" : Str)) = false := by decide) : PE X (.Name x p) (dT (cnOf X) T W (sC (.str y))) := pe_cD (pe_glob (v := .str y) hg hm ⟨t, rfl⟩ hd) fun _ => .str y
theorem pe_iD {i : Int} {j : Nat} {pos : Pos} : PE X (.Constant (.int i) j pos) (dT (cnOf X) T W (sC (.int i))) := pe_cD pe_int fun _ => .int i
theorem pe_sD {y : Str} {j : Nat} {pos : Pos} : PE X (.Constant (.str y) j pos) (dT (cnOf X) T W (sC (.str y))) := pe_cD pe_str fun _ => .str y
theorem pe_bD' {b : Bool} {j : Nat} {pos : Pos} : PE X (.Constant (.bool b) j pos) (dT (cnOf X) T W (sC (.bool b))) := pe_cD pe_bl fun _ => .bl b
theorem pe_nD {j : Nat} {pos : Pos} : PE X (.Constant .none j pos) (dT (cnOf X) T W (sC .none)) := pe_cD pe_non fun _ => .non
end
end Sd
set_option Elab.async false
set_option linter.all false
set_option maxRecDepth 100000
set_option maxHeartbeats 4000000
set_option autoImplicit false
/-! Sd: the end. -/
namespace Sd
open PySem PySem.Spec PyProof.Rows L2 C8 GenW GxR

section
variable {P : Program} {w : World} {K : PySem.W.Frag} {mg : Str → Option Value} {base : Heap} {tabs : List Addr}
/-- cal_fn, for a def whose object is known -/
theorem fno_fn {x : Str} {st : Stmt} {cdv : Value} {f : Addr} {fd : FuncData} {N ps : List Str} {k : Nat} {m : MS} {F : Fn} (Fd : DefC K mg x st cdv f fd)
    (S : L2.FnScope N ps (fnScope st)) (hF : F = ofBody (N.length - ps.length) m)
    (hb : ∀ (A : Around) (outer : List PySem.Env) (s : Shared) (H : Hp) (E : XK), L2.Room k (A.deeper (envOfC x (fnScope st) s.heap.objs.size f cdv)) →
      PSs (cxOf C8.CX0 P w K mg base N x (fnScope st) f cdv A outer s H E).nox (fnBody st) (dS ⟨P, w, K⟩ ⟨tabs, []⟩ W0 m)) : L2.FnOk P w K mg base C8.CX0 (k + 1) f fd ps (dSp ⟨P, w, K⟩ tabs ps.length F) := by
  obtain ⟨oc, od, kV, doc, pm, an, ct, osl, rfl, lk, hcd⟩ := Fd.ex
  exact fn_of lk hcd S (fun vs H Q E h => h.1) fun A outer s H vs Q E hr h => ⟨_, (hb A outer s H E hr).nox, enter hF h⟩
/-- a def as the head tells it -/
theorem defC_of {x : Str} {st : Stmt} {fd : FuncData} (F : L2.FunD K x x (fnArgs st) (fnBody st) (fnScope st) [] [] (He.fAd K (x, none)) fd) (hm : mg x = some (.ref (He.fAd K (x, none)))) : DefC K mg x st (.ref (He.codeOf K (x, none))) (He.fAd K (x, none)) fd := by
  obtain ⟨oc, od, dV, kV, doc, pm, an, cdv, ct, osl, e, lk, hcd, hd, _⟩ := F.ex
  subst e
  obtain ⟨c, ec⟩ := He.codeIn_ref hcd
  subst ec
  have e2 : dV = .none := by
    rcases hd with ⟨_, e⟩ | ⟨h, _⟩
    · exact e
    · exact (h rfl).elim
  subst e2
  have e3 : He.codeOf K (x, none) = c := He.codeOf_eq lk rfl
  rw [e3]
  exact ⟨⟨oc, od, kV, doc, pm, an, ct, osl, rfl, lk, hcd⟩, hm, F.kp⟩
/-- the law's promise at the script -/
theorem law_sp {F : Fn} {H : Hp} {a : Addr} {ns : List Int} {E : XK} (hH : ∀ t ∈ tabs, H t = some (.tbl #[])) (hS : SqL K H a (ns.map V.int)) (hF : F [.list (ns.map .int)] = .ok (.val (.bool true))) :
    dSp ⟨P, w, K⟩ tabs 1 F [.ref a] H (fun v _ => v = .bl true) E := by
  have hints : ∀ (G : Hp) (l : List Int), Reps ⟨P, w, K⟩ G (l.map V.int) (l.map .int) := fun G l => by
    induction l with
    | nil => exact .nil
    | cons i l ih => exact .cons (.int i) ih
  have core : ∀ G : Hp, Same G H → (∀ a ps, G a ≠ some (.tbl ps)) → SqL K G a (ns.map V.int) → dSp ⟨P, w, K⟩ tabs 1 F [.ref a] H (fun v _ => v = .bl true) E := fun G sub ntb sq => by
    refine ⟨rfl, G, [.list (ns.map .int)], ⟨sub, ntb, fun _ z => z.elim, fun t ht => ⟨#[], hH t ht, trivial⟩, fun _ z => absurd z (by simp), rfl, fun i s z => by simp at z, fun i j o o' a _ z => by simp at z⟩, .cons (.lst sq (hints G ns)) .nil, ?_⟩
    rw [hF]
    exact fun v G' H' _ _ rr => by cases rr; rfl
  rcases hS with hS | hS
  · refine core (fun b => if b = a then H a else none) (fun b o e => ?_) (fun b ps e => ?_) (.inl ?_)
    · dsimp only at e
      by_cases z : b = a
      · rw [if_pos z] at e; rw [z]; exact e
      · rw [if_neg z] at e; cases e
    · by_cases z : b = a
      · rw [if_pos z] at e
        rcases hS with h | ⟨o, h⟩
        · rw [h] at e; cases e
        · rw [h] at e; cases e
      · rw [if_neg z] at e; cases e
    · rcases hS with h | ⟨o, h⟩
      · exact .inl ((if_pos rfl).trans h)
      · exact .inr ⟨o, (if_pos rfl).trans h⟩
  · exact core (fun _ => none) (fun _ _ e => by cases e) (fun _ _ e => by cases e) (.inr hS)
theorem tabB_of {c P : Addr} (h : LamX.TabB base mg c P) : TabB base mg c P := ⟨h.code, h.bm, h.gP⟩
/-- the tables of the defs that hold generator expressions -/
abbrev csOf (K : PySem.W.Frag) (tf : List He.Defn) : List (Addr × Addr) := tf.map (He.cT K)
theorem law_at {l : PySem.W.OpenLaw} {w : World} {K : PySem.W.Frag} {mg : Str → Option Value} {h : Heap} {fa : List He.Fa} {fn : List He.DefD} {tf : List He.Defn} {ex : PySem.W.Frag → Bool} {fA : Addr} {fd : FuncData} {k : Nat} {F : Fn} (KX : K.In h) (c : He.SaysX fa fn [] tf ex w h K)
    (hb : ∀ (s : Shared) (u : Value), BindsTo s fd ⟨[u], []⟩ [("script", u)])
    (hF : ∀ ns : List Int, ns.length ≤ 63 → (∀ z ∈ ns, Builtin.Int.intBits z ≤ 1048576) → F [.list (ns.map .int)] = .ok (.val (.bool true)))
    (hok : ∀ base : Heap, K.In base → base.Ns mainGlobals mg → (∀ p ∈ csOf K tf, TabB base mg p.1 p.2) → L2.FnOk l.prog w K mg base C8.CX0 k fA fd ["script"] (dSp ⟨l.prog, w, K⟩ ((csOf K tf).map (·.2)) 1 F)) :
    LamX.LawAtS l w K C8.CX0 k 63 "script" mg fA h := by
  refine ⟨fd, csOf K tf, _, fun p hp => ?_, fun p hp => ?_, fun p hp => ?_, hb, fun H a ns hl hz hH hS => law_sp (fun t ht => ?_) hS (hF ns hl hz), fun base h1 h2 h3 => hok base h1 h2 fun p hp => tabB_of (h3 p hp)⟩
  · obtain ⟨q, hq, rfl⟩ := List.mem_map.mp hp
    exact c.empty q hq
  · obtain ⟨q, hq, rfl⟩ := List.mem_map.mp hp
    exact c.out q hq
  · obtain ⟨q, hq, rfl⟩ := List.mem_map.mp hp
    exact PySem.W.codeHd_of_K KX (c.hd q hq)
  · obtain ⟨p, hp, rfl⟩ := List.mem_map.mp ht
    exact hH p hp
end
end Sd
set_option Elab.async false
set_option linter.all false
set_option maxRecDepth 100000
set_option maxHeartbeats 4000000
set_option autoImplicit false
/-! Sd: a dict with tuple keys that has just been made, gone through by its keys. -/
namespace Sd
open PySem PySem.Spec PyProof.Rows L2

/-- the keys at ks, of the dict od at d -/
def Itkn (d : Addr) (od : Obj) (ks : List Addr) : It :=
  ⟨fun i H => (∃ u, H d = some (.frz od u)) ∧ i < ks.length, fun i H x H' => H' = H ∧ ∃ b, ks[i]? = some b ∧ x = .ref b, fun i H => (∃ u, H d = some (.frz od u)) ∧ ks.length ≤ i⟩
theorem turn_kn {P : Program} {w : World} {K : PySem.W.Frag} {tg : Expr} {d : Addr} {od : Obj} {ks : List Addr} {es : Array DictEntry} {ep : Nat} (it : Addr) (hod : od.data = .dict es ep) (hes : es.toList.map (·.key) = ks.map Value.ref) :
    Turn P w K tg (Itkn d od ks) [it] it (fun i h => h.IsKeyIter it d i es.size ep) where
  mem := by simp
  obj := fun i h st b hb => by
    have e : b = it := by simpa using hb
    subst e
    obtain ⟨oi, e, c, dd⟩ := st
    exact ⟨oi, e, fun v z => by rw [dd] at z; cases z⟩
  keep := fun i h h' st k => st.at fun oi e => k it (by simp) oi e
  item := by
    intro X hP hw hK hc i pins s σ H E I hf st hg
    subst hP hw hK
    obtain ⟨⟨u, hd⟩, hi⟩ := hg
    obtain ⟨f0, f1, f2, f3, f4, f5⟩ := hf it (by simp)
    obtain ⟨hgd, _⟩ := (show ObjOk X.prog X.w H s.heap d (.frz od u) from I.hok d _ hd)
    have hl : es.size = ks.length := by
      have := congrArg List.length hes
      simpa using this
    have hi' : i < es.size := by omega
    have hen : es[i]? = some es[i] := Array.getElem?_eq_getElem hi'
    have hk : es[i].key = .ref ks[i] := by
      have h1 : (es.toList.map (·.key))[i]? = (ks.map Value.ref)[i]? := by rw [hes]
      simpa [hi, hi'] using h1
    refine next_key_item st hgd hod rfl hen fun h' st' sb => ?_
    have I1 : Inv X pins σ H { s with heap := h' } := I.turned (t' := s.toks) (fun b ob hb e => (sb.2 b hb).trans e) f0 f1 f3 f4 f5
    obtain ⟨oi, e, c, dd⟩ := id st'
    exact ⟨es[i].key, rfl, go_of (s := { s with heap := h' }) e c dd (by decide) ⟨.ref ks[i], H, I1, hk, ⟨rfl, ks[i], List.getElem?_eq_getElem hi, rfl⟩, st', fun b hb => (hf b hb).1⟩⟩
  done := by
    intro X hP hw hK hc i pins s σ H E I hf st hg
    subst hP hw hK
    obtain ⟨⟨u, hd⟩, hi⟩ := hg
    obtain ⟨f0, f1, f2, f3, f4, f5⟩ := hf it (by simp)
    obtain ⟨hgd, _⟩ := (show ObjOk X.prog X.w H s.heap d (.frz od u) from I.hok d _ hd)
    have hl : es.size = ks.length := by
      have := congrArg List.length hes
      simpa using this
    exact next_key_end (I.ok.hd hc) st hgd hod rfl (by omega) fun h' eb => ⟨rfl, I.turned (t' := s.toks) (fun b ob hb e => eb b ob hb e) f0 f1 f3 f4 f5⟩
  self := fun A i s Q E st h => by
    refine wpAny_pyIter_slot st.typeIs F.slot_dict_keyiterator_iter (wpAny_call_entry F.slot_dict_keyiterator_iter st.typeIs F.entry_dict_keyiterator_iter ?_ (F.args_dict_keyiterator_iter_1 _))
    show wpAny _ _ (ret (.ref it)) _ _ s
    exact wpAny_pure ⟨_, rfl, "dict_keyiterator", _, st.typeIs, F.slot_dict_keyiterator_next.lookup, h⟩
theorem io_kn {c : Cn} {G0 : Hp} {d : Addr} {od : Obj} {u : HO} {ks : List Addr} {ds : List D} (hd : G0 d = some (.frz od u)) (rs : Reps c G0 (ks.map V.ref) ds) : IterOk c (Itkn d od ks) G0 ds where
  go := fun G H i s1 s2 hi => ⟨⟨u, s2 _ _ (s1 _ _ hd)⟩, by have := rs.length; simp at this; omega⟩
  yld := fun G H i x H' s1 s2 nt hi h => by
    obtain ⟨rfl, b, hb, rfl⟩ := h
    obtain ⟨e, e2, r⟩ := rs.getV i (v := .ref b) (by rw [List.getElem?_map, hb]; rfl)
    exact ⟨e, G, e2, TrN.refl s2 nt, r.mono s1⟩
  stop := fun G H i s1 s2 hi => ⟨⟨u, s2 _ _ (s1 _ _ hd)⟩, by have := rs.length; simp at this; omega⟩
/-- an object that no slot holds is told otherwise, and is frozen so -/
theorem Hold.retell {c : Cn} {T : Fx} {O : Addr → Prop} {G H : Hp} {σ : St} {ρ : Ev} {a : Addr} {u w : HO} (h : Hold c T O G σ H ρ) (ho : ¬ O a) (hg : G a = none) (hu : H a = some u) (hn : ∀ ps, u ≠ .tbl ps) (hw : ∀ ps, w ≠ .tbl ps) : Hold c T O (upd G a w) σ (upd H a w) ρ where
  sub := fun b o e => by
    by_cases z : b = a
    · subst z; rw [upd_same] at e ⊢; exact e
    · rw [upd_ne z] at e ⊢; exact h.sub b o e
  ntb := fun b ps e => by
    by_cases z : b = a
    · subst z; rw [upd_same] at e; exact hw ps (Option.some.inj e)
    · rw [upd_ne z] at e; exact h.ntb b ps e
  oin := fun b hb e => by
    have z : b ≠ a := fun z => ho (by rw [← z]; exact hb)
    rw [upd_ne z] at e
    exact h.oin b hb e
  tab := fun p hp => by
    obtain ⟨ps, e, q⟩ := h.tab p hp
    refine ⟨ps, ?_, q⟩
    rw [upd_ne (fun z => by subst z; rw [hu] at e; exact hn ps (Option.some.inj e))]
    exact e
  lnt := h.lnt
  len := h.len
  slot := fun i s hi => by
    obtain ⟨v, e, q⟩ := h.slot i s hi
    refine ⟨v, e, ?_⟩
    have sm : Same G (upd G a w) := fun b o e => by rw [upd_ne (ne_of_none e hg)]; exact e
    cases s with
    | val d => exact Rep.mono sm q
    | own o =>
      obtain ⟨b, rfl, hb, hg2, q⟩ := q
      have z : b ≠ a := fun z => ho (by rw [← z]; exact hb)
      exact ⟨b, rfl, hb, by rw [upd_ne z]; exact hg2, q.mono sm (upd_ne z)⟩
  apart := h.apart
theorem Tr.retell {O : Addr → Prop} {G H G1 H1 : Hp} {a : Addr} {w : HO} (t : Tr O G H G1 H1) (hH : H a = none) (hg : G1 a = none) : Tr O G H (upd G1 a w) (upd H1 a w) where
  g := fun b o e => by rw [upd_ne (ne_of_none (t.g b o e) hg)]; exact t.g b o e
  k := fun b o e n p => by rw [upd_ne (ne_of_none e hH)]; exact t.k b o e n p
  n := fun b o e => by
    by_cases z : b = a
    · subst z; exact .inr (.inl hH)
    · rw [upd_ne z] at e; exact t.n b o e
  d := fun b e => by
    by_cases z : b = a
    · subst z; exact hH
    · rw [upd_ne z] at e; exact t.d b e
  t := fun b ps e => by
    obtain ⟨ps', e'⟩ := t.t b ps e
    exact ⟨ps', by rw [upd_ne (ne_of_none e hH)]; exact e'⟩
/-- its keys -/
def sItK (f : M Sl) : M (List D) := fun ρ => (f ρ).bind fun r ρ' => match r with
  | .own (.dct kvs) => if allTup kvs = true then .ok (kvs.map (·.1)) ρ' else .bad
  | _ => .bad
theorem ObAt.na {c : Cn} {G H : Hp} {a : Addr} {kvs : List (D × D)} (q : ObAt c G H a (.dct kvs)) (ht : allTup kvs = true) : ∃ xs, NAt c H a xs ∧ RepsN c G xs kvs := by
  rcases q with ⟨es, e1, r⟩ | ⟨xs, e1, r⟩
  · cases r with
    | nil => exact ⟨[], .inr ⟨rfl, .inl e1⟩, .nil⟩
    | cons a b =>
      rename_i k _ _ _ _
      cases k <;> simp [allTup, isTup, keyD] at ht
  · exact ⟨xs, .inl e1, r⟩
section
variable {X : Cx} {T : Fx} {W : WX} {e tg : Expr} {f : M Sl}
theorem pi_K (he : PE X e (dT (cnOf X) T W f)) : PI X tg e (dI (cnOf X) T W (sItK f)) := by
  refine ⟨fun pins s σ H R I h => ?_⟩
  obtain ⟨O, G, ρ, hold, h⟩ := h
  unfold sItK at h
  have key : dT (cnOf X) T W f σ H (fun x H1 => ∃ G1 ρ1 kvs a, x = V.ref a ∧ Tr O G H G1 H1 ∧ Hold (cnOf X) T O G1 σ H1 ρ1 ∧ H a = none ∧ G1 a = none ∧ ObAt (cnOf X) G1 H1 a (.dct kvs) ∧ allTup kvs = true ∧
      ∀ J G' H', Tr O G H G' H' → Hold (cnOf X) T O G' σ H' ρ1 → IterOk (cnOf X) J G' (kvs.map (·.1)) → R J H') := by
    refine ⟨O, G, ρ, hold, ?_⟩
    cases q : f ρ with
    | bad => rw [q] at h; exact h.elim
    | exc x ρ' => rw [q] at h; exact h
    | ok r ρ1 =>
      rw [q] at h
      simp only [Res.bind_ok] at h
      cases r with
      | val d => exact h.elim
      | own o =>
        cases o with
        | lst xs => exact h.elim
        | dct kvs =>
          simp only at h
          by_cases ht : allTup kvs = true
          · rw [if_pos ht] at h
            intro v G1 H1 t1 hold1 rr
            obtain ⟨a, rfl, h1, h2, h3⟩ := rr
            exact ⟨G1, ρ1, kvs, a, rfl, t1, hold1, h1, h2, h3, ht, h⟩
          · rw [if_neg ht] at h; exact h.elim
  refine thn (he.run pins s σ H _ I key) fun v s1 ⟨x, H1, I1, r1, q⟩ => ?_
  obtain ⟨G1, ρ1, kvs, a, rfl, t1, hold1, h1, h2, h3, ht, k⟩ := q
  cases r1
  obtain ⟨u, hu, nu, mu⟩ := h3.there
  obtain ⟨xs, na, rn⟩ := h3.na ht
  obtain ⟨g1, g2, ys, p, o, es, ep, ho, hx, hdt, hee, hkeys, hn⟩ := nd_of I1 na hold1.sub rn
  obtain ⟨od, I2⟩ := I1.lock hu mu
  obtain ⟨hgd, _⟩ := (show ObjOk X.prog X.w (upd H1 a (.frz od u)) s1.heap a (.frz od u) from I2.hok a _ upd_same)
  rw [ho] at hgd
  cases hgd
  have no : ¬ O a := fun z => hold.oin a z h1
  have hold2 := hold1.retell (w := .frz o u) no h2 hu nu (fun ps z => by cases z)
  have tr2 := t1.retell (w := .frz o u) h1 h2
  have sm : Same G1 (upd G1 a (.frz o u)) := fun b w e => by rw [upd_ne (ne_of_none e h2)]; exact e
  have hes : es.toList.map (·.key) = (ys.map fun y => y.2.1).map Value.ref := by
    rw [hee, List.map_map, List.map_map]
    rfl
  have rk := keys_vals rn p
  have io : IterOk (cnOf X) (Itkn a o (ys.map fun y => y.2.1)) (upd G1 a (.frz o u)) (kvs.map (·.1)) := by
    refine io_kn upd_same ?_
    rw [List.map_map]
    exact rk.mono sm
  exact iter_keys g1 ho hx hdt (pi_one (tk := s1.toks) I2 _ (turn_kn _ hdt hes) ⟨_, Heap.get?_push_size _ rfl, rfl, rfl⟩ (k _ _ _ tr2 hold2 io))
end
end Sd
set_option Elab.async false
set_option linter.all false
set_option maxRecDepth 100000
set_option maxHeartbeats 4000000
set_option autoImplicit false
/-! Sd: running the semantics by simp. -/
namespace Sd
open PySem PySem.Spec PyProof.Rows L2

@[simp] theorem frz_val (d : D) : (Sl.val d).frz = d := rfl
@[simp] theorem frz_lst (xs : List D) : (Sl.own (.lst xs)).frz = .list xs := rfl
@[simp] theorem frz_dct (xs : List (D × D)) : (Sl.own (.dct xs)).frz = .dict xs := rfl
@[simp] theorem obfrz_lst (xs : List D) : (Ob.lst xs).frz = .list xs := rfl
@[simp] theorem obfrz_dct (xs : List (D × D)) : (Ob.dct xs).frz = .dict xs := rfl
@[simp] theorem ph1_nm (i : Nat) (ρ : Ev) : (Opd.nm i).ph1 ρ = match ρ[i]? with | some (some _) => .ok none ρ | _ => .bad := Eq.trans rfl rfl
@[simp] theorem ph1_ex (f : M Sl) (ρ : Ev) : (Opd.ex f).ph1 ρ = (f ρ).bind fun r ρ' => .ok (some r.frz) ρ' := Eq.trans rfl rfl
@[simp] theorem ph2_nm (i : Nat) (x : Option D) (ρ : Ev) : (Opd.nm i).ph2 x ρ = match ρ[i]? with | some (some s) => some s.frz | _ => none := Eq.trans rfl rfl
@[simp] theorem ph2_ex (f : M Sl) (x : Option D) (ρ : Ev) : (Opd.ex f).ph2 x ρ = x := Eq.trans rfl rfl
@[simp] theorem sOp2_ap (p : D → D → Option Sl) (A B : Opd) (ρ : Ev) : sOp2 p A B ρ = (A.ph1 ρ).bind fun x ρ1 => (B.ph1 ρ1).bind fun y ρ2 => Res.ofO ((A.ph2 x ρ2).bind fun d => (B.ph2 y ρ2).bind (p d)) ρ2 := by
  unfold sOp2 sN ph1s
  cases A.ph1 ρ with
  | bad => rfl
  | exc c ρ' => rfl
  | ok x ρ1 =>
    unfold ph1s
    simp only [Res.bind_ok]
    cases B.ph1 ρ1 with
    | bad => rfl
    | exc c ρ' => rfl
    | ok y ρ2 =>
      unfold ph1s
      simp only [Res.bind_ok, ph2s]
      cases A.ph2 x ρ2 with
      | none => rfl
      | some d => cases B.ph2 y ρ2 <;> rfl
@[simp] theorem sOp1_ap (p : D → Option Sl) (A : Opd) (ρ : Ev) : sOp1 p A ρ = (A.ph1 ρ).bind fun x ρ1 => Res.ofO ((A.ph2 x ρ1).bind p) ρ1 := by
  unfold sOp1 sN ph1s
  cases A.ph1 ρ with
  | bad => rfl
  | exc c ρ' => rfl
  | ok x ρ1 =>
    unfold ph1s
    simp only [Res.bind_ok, ph2s]
    cases A.ph2 x ρ1 <;> rfl
@[simp] theorem sN1_ap (p : List D → Option Sl) (A : Opd) (ρ : Ev) : sN p [A] ρ = (A.ph1 ρ).bind fun x ρ1 => Res.ofO ((A.ph2 x ρ1).bind fun d => p [d]) ρ1 := by
  unfold sN ph1s
  cases A.ph1 ρ with
  | bad => rfl
  | exc c ρ' => rfl
  | ok x ρ1 =>
    unfold ph1s
    simp only [Res.bind_ok, ph2s]
    cases A.ph2 x ρ1 <;> rfl
@[simp] theorem sN2_ap (p : List D → Option Sl) (A B : Opd) (ρ : Ev) : sN p [A, B] ρ = (A.ph1 ρ).bind fun x ρ1 => (B.ph1 ρ1).bind fun y ρ2 => Res.ofO ((A.ph2 x ρ2).bind fun d => (B.ph2 y ρ2).bind fun e => p [d, e]) ρ2 := by
  unfold sN ph1s
  cases A.ph1 ρ with
  | bad => rfl
  | exc c ρ' => rfl
  | ok x ρ1 =>
    unfold ph1s
    simp only [Res.bind_ok]
    cases B.ph1 ρ1 with
    | bad => rfl
    | exc c ρ' => rfl
    | ok y ρ2 =>
      unfold ph1s
      simp only [Res.bind_ok, ph2s]
      cases A.ph2 x ρ2 with
      | none => rfl
      | some d => cases B.ph2 y ρ2 <;> rfl
@[simp] theorem bTru_ap (A : Opd) (ρ : Ev) : bTru A ρ = (A.ph1 ρ).bind fun x ρ1 => Res.ofO ((A.ph2 x ρ1).bind truD) ρ1 := by
  unfold bTru bN ph1s
  cases A.ph1 ρ with
  | bad => rfl
  | exc c ρ' => rfl
  | ok x ρ1 =>
    unfold ph1s
    simp only [Res.bind_ok, ph2s]
    cases A.ph2 x ρ1 <;> rfl
@[simp] theorem sVar_ap (i : Nat) (ρ : Ev) : sVar i ρ = match ρ[i]? with
  | some (some (.val d)) => .ok (.val d) ρ
  | some (some (.own o)) => .ok (.val o.frz) (ρ.set i (some (.val o.frz)))
  | _ => .bad := Eq.trans rfl rfl
@[simp] theorem sC_ap (d : D) (ρ : Ev) : sC d ρ = .ok (.val d) ρ := Eq.trans rfl rfl
@[simp] theorem boolD_b (b : Bool) : boolD (.val (.bool b)) = some b := rfl
@[simp] theorem sIf_ap (b : M Bool) (f g : M Sl) (ρ : Ev) : sIf b f g ρ = (b ρ).bind fun x ρ' => if x = true then f ρ' else g ρ' := Eq.trans rfl rfl
@[simp] theorem sAnd_ap (f g : M Sl) (ρ : Ev) : sAnd f g ρ = (f ρ).bind fun r ρ' => match boolD r with
  | some b => if b = true then g ρ' else .ok (.val (.bool false)) ρ'
  | none => .bad := Eq.trans rfl rfl
@[simp] theorem sOr_ap (f g : M Sl) (ρ : Ev) : sOr f g ρ = (f ρ).bind fun r ρ' => match boolD r with
  | some b => if b = true then .ok (.val (.bool true)) ρ' else g ρ'
  | none => .bad := Eq.trans rfl rfl
@[simp] theorem sNot_ap (f : M Sl) (ρ : Ev) : sNot f ρ = (f ρ).bind fun r ρ' => match boolD r with
  | some b => .ok (.val (.bool (!b))) ρ'
  | none => .bad := Eq.trans rfl rfl
@[simp] theorem bAnd_ap (f g : M Bool) (ρ : Ev) : bAnd f g ρ = (f ρ).bind fun x ρ' => if x = true then g ρ' else .ok false ρ' := Eq.trans rfl rfl
@[simp] theorem bOr_ap (f g : M Bool) (ρ : Ev) : bOr f g ρ = (f ρ).bind fun x ρ' => if x = true then .ok true ρ' else g ρ' := Eq.trans rfl rfl
@[simp] theorem bNot_ap (f : M Bool) (ρ : Ev) : bNot f ρ = (f ρ).bind fun x ρ' => .ok (!x) ρ' := Eq.trans rfl rfl
@[simp] theorem bVal_ap (f : M Sl) (ρ : Ev) : bVal f ρ = (f ρ).bind fun r ρ' => match boolD r with
  | some b => .ok b ρ'
  | none => .bad := Eq.trans rfl rfl
@[simp] theorem bYes_ap (ρ : Ev) : bYes ρ = .ok true ρ := Eq.trans rfl rfl
@[simp] theorem aN_ap (ρ : Ev) : aN ρ = .ok [] ρ := Eq.trans rfl rfl
@[simp] theorem aC_ap (f : M Sl) (as : M (List D)) (ρ : Ev) : aC f as ρ = (f ρ).bind fun r ρ1 => (as ρ1).bind fun ds ρ2 => .ok (r.frz :: ds) ρ2 := Eq.trans rfl rfl
@[simp] theorem aS_ap (f : M Sl) (as : M (List D)) (ρ : Ev) : aS f as ρ = (f ρ).bind fun r ρ1 => match seqD r.frz with
  | some xs => (as ρ1).bind fun ds ρ2 => .ok (xs ++ ds) ρ2
  | none => .bad := Eq.trans rfl rfl
@[simp] theorem seqD_l (xs : List D) : seqD (.list xs) = some xs := rfl
@[simp] theorem seqD_t (xs : List D) : seqD (.tuple xs) = some xs := rfl
@[simp] theorem sTup_ap (as : M (List D)) (ρ : Ev) : sTup as ρ = (as ρ).bind fun ds ρ' => if ds.length ≤ sizeLine then .ok (.val (.tuple ds)) ρ' else .bad := Eq.trans rfl rfl
@[simp] theorem sLst_ap (as : M (List D)) (ρ : Ev) : sLst as ρ = (as ρ).bind fun ds ρ' => if ds.length ≤ sizeLine then .ok (.own (.lst ds)) ρ' else .bad := Eq.trans rfl rfl
@[simp] theorem sDict0_ap (ρ : Ev) : sDict0 ρ = .ok (.own (.dct [])) ρ := Eq.trans rfl rfl
@[simp] theorem sCall_ap (F : Fn) (as : M (List D)) (ρ : Ev) : sCall F as ρ = (as ρ).bind fun ds ρ' => match F ds with
  | .ok r => .ok r ρ'
  | _ => .bad := Eq.trans rfl rfl
@[simp] theorem sCallL_ap (F : FnL) (j : Nat) (as : M (List D)) (ρ : Ev) : sCallL F j as ρ = match ρ[j]? with
  | some (some (.own _)) => (as ρ).bind fun ds ρ' => match ρ'[j]? with
    | some (some (.own o)) => match F o ds with
      | .ok r s => .ok r (ρ'.set j (some s))
      | _ => .bad
    | _ => .bad
  | _ => .bad := Eq.trans rfl rfl
@[simp] theorem sLM_ap (op : LM) (i : Nat) (as : M (List D)) (ρ : Ev) : sLM op i as ρ = match ρ[i]? with
  | some (some (.own (.lst _))) => (as ρ).bind fun ds ρ1 => match ρ1[i]? with
    | some (some (.own (.lst xs))) => match op xs ds with
      | some (r, ys) => .ok (.val r) (ρ1.set i (some (.own (.lst ys))))
      | none => .bad
    | _ => .bad
  | _ => .bad := Eq.trans rfl rfl
@[simp] theorem bd_no (ρ : Ev) : Bd.no.run ρ = .ok none ρ := Eq.trans rfl rfl
@[simp] theorem intD_i (i : Int) : intD (.val (.int i)) = some i := rfl
@[simp] theorem bd_ex (f : M Sl) (ρ : Ev) : (Bd.ex f).run ρ = (f ρ).bind fun r ρ' => match intD r with
    | some i => .ok (some i) ρ'
    | none => .bad := Eq.trans rfl rfl
@[simp] theorem sSl_ap (A : Opd) (lo hi : Bd) (ρ : Ev) : sSl A lo hi ρ = (A.ph1 ρ).bind fun x ρ1 => (lo.run ρ1).bind fun l ρ2 => (hi.run ρ2).bind fun h ρ3 => Res.ofO ((A.ph2 x ρ3).bind (pSl l h)) ρ3 := Eq.trans rfl rfl
@[simp] theorem sCh_ap (p p' : D → D → Option Sl) (A B C : Opd) (ρ : Ev) : sCh p p' A B C ρ = (A.ph1 ρ).bind fun x ρ1 => (B.ph1 ρ1).bind fun y ρ2 => match ((A.ph2 x ρ2).bind fun d => (B.ph2 y ρ2).bind (p d)).bind boolD with
  | none => .bad
  | some false => .ok (.val (.bool false)) ρ2
  | some true => (C.ph1 ρ2).bind fun z ρ3 => Res.ofO ((B.ph2 y ρ3).bind fun d => (C.ph2 z ρ3).bind (p' d)) ρ3 := Eq.trans rfl rfl
@[simp] theorem sIt_ap (f : M Sl) (ρ : Ev) : sIt f ρ = (f ρ).bind fun r ρ' => match iterD r.frz with
  | some xs => .ok xs ρ'
  | none => .bad := Eq.trans rfl rfl
@[simp] theorem iterD_l (xs : List D) : iterD (.list xs) = some xs := rfl
@[simp] theorem iterD_t (xs : List D) : iterD (.tuple xs) = some xs := rfl
@[simp] theorem iterD_s (x : Str) : iterD (.str x) = some (strItems x) := rfl
theorem sRange1_ap (as : M (List D)) (ρ : Ev) : sRange1 as ρ = (as ρ).bind fun ds ρ' => Res.ofO (range1Of ds) ρ' := Eq.trans rfl rfl
theorem sRange2_ap (as : M (List D)) (ρ : Ev) : sRange2 as ρ = (as ρ).bind fun ds ρ' => Res.ofO (range2Of ds) ρ' := Eq.trans rfl rfl
@[simp] theorem sZip_ap (as : M (List D)) (ρ : Ev) : sZip as ρ = (as ρ).bind fun ds ρ' => Res.ofO (zipOf ds) ρ' := Eq.trans rfl rfl
@[simp] theorem sEnum_ap (as : M (List D)) (ρ : Ev) : sEnum as ρ = (as ρ).bind fun ds ρ' => Res.ofO (enumOf ds) ρ' := Eq.trans rfl rfl
@[simp] theorem mNext_ap (ρ : Ev) : mNext ρ = .nx ρ := Eq.trans rfl rfl
@[simp] theorem mSeq_ap (m n : MS) (ρ : Ev) : mSeq m n ρ = (m ρ).seq n := Eq.trans rfl rfl
@[simp] theorem mIf_ap (b : M Bool) (m n : MS) (ρ : Ev) : mIf b m n ρ = (b ρ).out fun x ρ' => if x = true then m ρ' else n ρ' := Eq.trans rfl rfl
@[simp] theorem mRet_ap (f : M Sl) (ρ : Ev) : mRet f ρ = (f ρ).out fun r ρ' => .rt r ρ' := Eq.trans rfl rfl
@[simp] theorem mRetV_ap (i : Nat) (ρ : Ev) : mRetV i ρ = match ρ[i]? with
  | some (some s) => .rt s (ρ.set i none)
  | _ => .bad := Eq.trans rfl rfl
@[simp] theorem mRetN_ap (ρ : Ev) : mRetN ρ = .rt (.val .none) ρ := Eq.trans rfl rfl
@[simp] theorem mBreak_ap (ρ : Ev) : mBreak ρ = .bk ρ := Eq.trans rfl rfl
@[simp] theorem mCont_ap (ρ : Ev) : mCont ρ = .ct ρ := Eq.trans rfl rfl
@[simp] theorem mDrop_ap (f : M Sl) (ρ : Ev) : mDrop f ρ = (f ρ).out fun _ ρ' => .nx ρ' := Eq.trans rfl rfl
@[simp] theorem mSet_ap (i : Nat) (f : M Sl) (ρ : Ev) : mSet i f ρ = (f ρ).out fun r ρ' => .nx (ρ'.set i (some r)) := Eq.trans rfl rfl
@[simp] theorem mAsg_ap (t : Tgt) (f : M Sl) (ρ : Ev) : mAsg t f ρ = (f ρ).out fun r ρ' => match assignT t r.frz ρ' with
  | some ρ2 => .nx ρ2
  | none => .bad := Eq.trans rfl rfl
@[simp] theorem mPar2_ap (i j : Nat) (f g : M Sl) (ρ : Ev) : mPar2 i j f g ρ = (f ρ).out fun r ρ1 => (g ρ1).out fun s ρ2 => .nx ((ρ2.set i (some r)).set j (some s)) := Eq.trans rfl rfl
@[simp] theorem mStore_ap (i : Nat) (g f : M Sl) (ρ : Ev) : mStore i g f ρ = (f ρ).out fun r ρ1 => match ρ1[i]? with
  | some (some (.own _)) => (g ρ1).out fun k ρ2 => match ρ2[i]? with
    | some (some (.own ob)) => match storeOb ob k.frz r.frz with
      | some ob' => .nx (ρ2.set i (some (.own ob')))
      | none => .bad
    | _ => .bad
  | _ => .bad := Eq.trans rfl rfl
theorem mFor_ap (it : M (List D)) (t : Tgt) (body : MS) (ρ : Ev) : mFor it t body ρ = (it ρ).out fun items ρ' => forItems t body items ρ' := Eq.trans rfl rfl
@[simp] theorem assignT_nm (i : Nat) (d : D) (ρ : Ev) : assignT (.nm i) d ρ = some (ρ.set i (some (.val d))) := by simp only [assignT]
@[simp] theorem assignT_tup (ts : List Tgt) (ds : List D) (ρ : Ev) : assignT (.tup ts) (.tuple ds) ρ = assignTs ts ds ρ := by simp only [assignT]
@[simp] theorem assignTs_nil (ρ : Ev) : assignTs [] [] ρ = some ρ := by simp only [assignTs]
@[simp] theorem assignTs_cons (t : Tgt) (ts : List Tgt) (d : D) (ds : List D) (ρ : Ev) : assignTs (t :: ts) (d :: ds) ρ = (assignT t d ρ).bind fun ρ' => assignTs ts ds ρ' := by simp only [assignTs]
@[simp] theorem wipeE_nil (ρ : Ev) : wipeE ρ [] = ρ := rfl
@[simp] theorem wipeE_cons (ρ : Ev) (v : Nat) (vs : List Nat) : wipeE ρ (v :: vs) = (wipeE ρ vs).set v none := rfl
@[simp] theorem restoreE_nil (a b : Ev) : restoreE a b [] = b := rfl
@[simp] theorem restoreE_cons (a b : Ev) (v : Nat) (vs : List Nat) : restoreE a b (v :: vs) = (restoreE a b vs).set v (keepV (a[v]?.getD none)) := rfl
@[simp] theorem keepV_none : keepV none = none := rfl
@[simp] theorem keepV_val (d : D) : keepV (some (.val d)) = some (.val d) := rfl
@[simp] theorem slots_nm (i : Nat) : (Tgt.nm i).slots = [i] := by simp only [Tgt.slots]
@[simp] theorem slots_tup (ts : List Tgt) : (Tgt.tup ts).slots = slotss ts := by simp only [Tgt.slots]
@[simp] theorem slotss_nil : slotss [] = [] := by simp only [slotss]
@[simp] theorem slotss_cons (t : Tgt) (ts : List Tgt) : slotss (t :: ts) = t.slots ++ slotss ts := by simp only [slotss]
/-! ints -/
@[simp] theorem plain_int (i : Int) : (PyData.int i).plain = true := by simp [PyData.plain]
@[simp] theorem plain_bool (i : Bool) : (PyData.bool i).plain = true := by simp [PyData.plain]
@[simp] theorem plain_str (i : Str) : (PyData.str i).plain = true := by simp [PyData.plain]
@[simp] theorem plain_none : (PyData.none).plain = true := by simp [PyData.plain]
@[simp] theorem plain_list (xs : List D) : (PyData.list xs).plain = PyData.plainAll xs := by simp [PyData.plain]
@[simp] theorem plain_tuple (xs : List D) : (PyData.tuple xs).plain = PyData.plainAll xs := by simp [PyData.plain]
@[simp] theorem plainAll_nil : PyData.plainAll [] = true := by simp [PyData.plainAll]
@[simp] theorem plainAll_cons (x : D) (xs : List D) : PyData.plainAll (x :: xs) = (x.plain && PyData.plainAll xs) := by simp [PyData.plainAll]
@[simp] theorem okLt_int (i j : Int) : okLt (.int i) (.int j) = true := by simp [okLt, PySem.W.alike, PyData.depth, isNoneD]
@[simp] theorem pLt_int (i j : Int) : pLt (.int i) (.int j) = some (.val (.bool (decide (i < j)))) := by simp [pLt, vB, PySem.W.dataLt_int]
@[simp] theorem pGt_int (i j : Int) : pGt (.int i) (.int j) = some (.val (.bool (decide (j < i)))) := by simp [pGt, vB, PySem.W.dataLt_int]
@[simp] theorem pLe_int (i j : Int) : pLe (.int i) (.int j) = some (.val (.bool (decide (i ≤ j)))) := by
  have : (!decide (j < i)) = decide (i ≤ j) := by by_cases h : j < i <;> simp [h] <;> omega
  simp [pLe, vB, PySem.W.dataLt_int, this]
@[simp] theorem pGe_int (i j : Int) : pGe (.int i) (.int j) = some (.val (.bool (decide (j ≤ i)))) := by
  have : (!decide (i < j)) = decide (j ≤ i) := by by_cases h : i < j <;> simp [h] <;> omega
  simp [pGe, vB, PySem.W.dataLt_int, this]
@[simp] theorem pAdd_int (i j : Int) : pAdd (.int i) (.int j) = some (.val (.int (i + j))) := rfl
@[simp] theorem pSub_int (i j : Int) : pSub (.int i) (.int j) = some (.val (.int (i - j))) := rfl
@[simp] theorem pNeg_int (i : Int) : pNeg (.int i) = some (.val (.int (-i))) := rfl
/-! comprehensions whose turns leave all as it was -/
def turnC {E : Type} (tg : Tgt) (cond : M Bool) (body : M (List E)) (d : D) : M (List E) := fun ρ => match assignT tg d ρ with
  | none => .bad
  | some ρ1 => (cond ρ1).bind fun b ρ2 => (if b = true then body ρ2 else .ok [] ρ2).bind fun xs ρ3 => .ok xs (wipeE ρ3 tg.slots)
theorem compItems_step {E : Type} (tg : Tgt) (cond : M Bool) (body : M (List E)) (d : D) (ds : List D) (ρ : Ev) : compItems tg cond body (d :: ds) ρ = (turnC tg cond body d ρ).bind fun xs ρ1 => (compItems tg cond body ds ρ1).bind fun ys ρ2 => .ok (xs ++ ys) ρ2 := by
  simp only [compItems, turnC]
  cases assignT tg d ρ with
  | none => rfl
  | some ρ1 =>
    simp only
    cases cond ρ1 with
    | bad => rfl
    | exc c ρ' => rfl
    | ok b ρ2 =>
      simp only [Res.bind_ok]
      cases (if b = true then body ρ2 else .ok [] ρ2) with
      | bad => rfl
      | exc c ρ' => rfl
      | ok xs ρ3 => rfl
theorem compItems_pure {E : Type} {tg : Tgt} {cond : M Bool} {body : M (List E)} {ρ : Ev} {g : D → List E} : ∀ {items : List D}, (∀ d ∈ items, turnC tg cond body d ρ = .ok (g d) ρ) → compItems tg cond body items ρ = .ok (items.flatMap g) ρ
  | [], _ => rfl
  | d :: ds, h => by
    rw [compItems_step, h d (by simp), Res.bind_ok, compItems_pure fun x hx => h x (by simp [hx])]
    rfl
theorem sListComp_run {vs : List Nat} {dc : DCl} {dcs : List DCl} {f : M Sl} {ρ ρ1 ρ2 : Ev} {items xs : List D} (h1 : dc.it ρ = .ok items ρ1) (h2 : compItems dc.tg dc.cond (compGo (emit1 f) dcs) items (wipeE ρ1 vs) = .ok xs ρ2) (hz : xs.length ≤ sizeLine) :
    sListComp vs dc dcs f ρ = .ok (.own (.lst xs)) (restoreE ρ1 ρ2 vs) := by
  unfold sListComp sComp
  rw [h1]
  simp only [Res.bind_ok]
  rw [h2]
  simp only
  rw [if_pos hz]
  rfl
/-- one clause, an element a turn -/
theorem sListComp_pure {vs : List Nat} {dc : DCl} {f : M Sl} {ρ ρ1 : Ev} {items : List D} {g : D → List D} (h1 : dc.it ρ = .ok items ρ1) (h2 : ∀ d ∈ items, turnC dc.tg dc.cond (emit1 f) d (wipeE ρ1 vs) = .ok (g d) (wipeE ρ1 vs)) (hr : restoreE ρ1 (wipeE ρ1 vs) vs = ρ1) (hz : (items.flatMap g).length ≤ sizeLine) :
    sListComp vs dc [] f ρ = .ok (.own (.lst (items.flatMap g))) ρ1 := by
  have := sListComp_run (f := f) (dcs := []) h1 (compItems_pure (body := compGo (emit1 f) []) h2) hz
  rw [hr] at this
  exact this
@[simp] theorem emit1_ap (f : M Sl) (ρ : Ev) : emit1 f ρ = (f ρ).bind fun r ρ' => .ok [r.frz] ρ' := Eq.trans rfl rfl
@[simp] theorem compGo_nil {E : Type} (emit : M (List E)) : compGo emit [] = emit := Eq.trans rfl rfl
@[simp] theorem anyGo_nil (stop : Bool) (elt : M Sl) : anyGo stop elt [] = eltB stop elt := Eq.trans rfl rfl
@[simp] theorem eltB_ap (stop : Bool) (elt : M Sl) (ρ : Ev) : eltB stop elt ρ = (elt ρ).bind fun r ρ' => match r with
  | .val (.bool b) => .ok (b == stop) ρ'
  | _ => .bad := Eq.trans rfl rfl
def turnA (tg : Tgt) (cond : M Bool) (body : M Bool) (d : D) : M Bool := fun ρ => match assignT tg d ρ with
  | none => .bad
  | some ρ1 => (cond ρ1).bind fun b ρ2 => if b = true then body ρ2 else .ok false ρ2
theorem anyItems_step (tg : Tgt) (cond : M Bool) (body : M Bool) (d : D) (ds : List D) (ρ : Ev) : anyItems tg cond body (d :: ds) ρ = (turnA tg cond body d ρ).bind fun st ρ1 => if st = true then .ok true ρ1 else anyItems tg cond body ds (wipeE ρ1 tg.slots) := by
  simp only [anyItems, turnA]
  cases assignT tg d ρ with
  | none => rfl
  | some ρ1 =>
    simp only
    cases cond ρ1 with
    | bad => rfl
    | exc c ρ' => rfl
    | ok b ρ2 =>
      simp only [Res.bind_ok]
      cases b with
      | true => rfl
      | false => rfl
theorem anyItems_pure {tg : Tgt} {cond : M Bool} {body : M Bool} {ρ : Ev} {P : Ev → Prop} {p : D → Bool} (hρ : P ρ) : ∀ {items : List D}, (∀ d ∈ items, ∃ ρ', turnA tg cond body d ρ = .ok (p d) ρ' ∧ wipeE ρ' tg.slots = ρ ∧ P ρ') → ∃ ρ', anyItems tg cond body items ρ = .ok (items.any p) ρ' ∧ P ρ'
  | [], _ => ⟨ρ, rfl, hρ⟩
  | d :: ds, h => by
    obtain ⟨ρ1, e1, e2, e3⟩ := h d (by simp)
    rw [anyItems_step, e1, Res.bind_ok]
    cases hp : p d with
    | true => exact ⟨ρ1, by simp [hp], e3⟩
    | false =>
      obtain ⟨ρ', e4, e5⟩ := anyItems_pure (items := ds) hρ fun x hx => h x (by simp [hx])
      refine ⟨ρ', ?_, e5⟩
      rw [if_neg (by simp), e2, e4]
      simp [hp]
theorem sAny_pure {isAll : Bool} {vs : List Nat} {dc : DCl} {dcs : List DCl} {f : M Sl} {ρ ρ1 : Ev} {items : List D} {p : D → Bool} (h1 : dc.it ρ = .ok items ρ1) (hr : restoreE ρ1 (wipeE ρ1 vs) vs = ρ1)
    (h2 : ∀ d ∈ items, ∃ ρ', turnA dc.tg dc.cond (anyGo (!isAll) f dcs) d (wipeE ρ1 vs) = .ok (p d) ρ' ∧ wipeE ρ' dc.tg.slots = wipeE ρ1 vs ∧ restoreE ρ1 ρ' vs = ρ1) :
    sAny isAll vs dc dcs f ρ = .ok (.val (.bool (if isAll = true then !(items.any p) else items.any p))) ρ1 := by
  obtain ⟨ρ', e, er⟩ := anyItems_pure (P := fun ρ' => restoreE ρ1 ρ' vs = ρ1) hr h2
  unfold sAny
  rw [h1, Res.bind_ok, e]
  simp only
  rw [er]
/-! loops -/
theorem forItems_nil (t : Tgt) (body : MS) (ρ : Ev) : forItems t body [] ρ = .nx ρ := rfl
theorem forItems_cons (t : Tgt) (body : MS) (d : D) (ds : List D) (ρ : Ev) : forItems t body (d :: ds) ρ = match assignT t d ρ with
    | some ρ1 => (body ρ1).turn (forItems t body ds)
    | none => .bad := rfl
/-- a loop by its invariant -/
theorem forItems_inv {t : Tgt} {body : MS} {I : List D → Ev → Prop} : ∀ {items : List D} {ρ : Ev}, I items ρ → (∀ d ds ρ, I (d :: ds) ρ → ∃ ρ1 ρ2, assignT t d ρ = some ρ1 ∧ body ρ1 = .nx ρ2 ∧ I ds ρ2) → ∃ ρ', forItems t body items ρ = .nx ρ' ∧ I [] ρ'
  | [], ρ, h, _ => ⟨ρ, rfl, h⟩
  | d :: ds, ρ, h, hs => by
    obtain ⟨ρ1, ρ2, e1, e2, e3⟩ := hs d ds ρ h
    obtain ⟨ρ', e4, e5⟩ := forItems_inv e3 hs
    refine ⟨ρ', ?_, e5⟩
    rw [forItems_cons, e1]
    simp only
    rw [e2, Out.turn_nx, e4]
theorem ofBody_rt {k : Nat} {m : MS} {ds : List D} {r : Sl} {ρ : Ev} (h : m (ds.map (fun d => some (.val d)) ++ List.replicate k none) = .rt r ρ) : ofBody k m ds = .ok r := by
  unfold ofBody; rw [h]
@[simp] theorem okEq_int (i : Int) : okEq (.int i) = true := by simp [okEq, PyData.depth]
@[simp] theorem okEq_bool (i : Bool) : okEq (.bool i) = true := by simp [okEq, PyData.depth]
@[simp] theorem okEq_str (i : Str) : okEq (.str i) = true := by simp [okEq, PyData.depth]
@[simp] theorem okEq_none : okEq .none = true := by simp [okEq, PyData.depth]
@[simp] theorem eqv_int (i j : Int) : PyData.eqv (.int i) (.int j) = (i == j) := by simp [PyData.eqv]
@[simp] theorem eqv_bool (i j : Bool) : PyData.eqv (.bool i) (.bool j) = (i == j) := by simp [PyData.eqv]
@[simp] theorem eqv_str (i j : Str) : PyData.eqv (.str i) (.str j) = (i == j) := by simp [PyData.eqv]
@[simp] theorem pEq_int (i j : Int) : pEq (.int i) (.int j) = some (.val (.bool (i == j))) := by simp [pEq, vB]
@[simp] theorem pNe_int (i j : Int) : pNe (.int i) (.int j) = some (.val (.bool (!(i == j)))) := by simp [pNe, vB]
@[simp] theorem pEq_bool (i j : Bool) : pEq (.bool i) (.bool j) = some (.val (.bool (i == j))) := by simp [pEq, vB]
@[simp] theorem pNe_bool (i j : Bool) : pNe (.bool i) (.bool j) = some (.val (.bool (!(i == j)))) := by simp [pNe, vB]
@[simp] theorem truD_bool (b : Bool) : truD (.bool b) = some b := rfl
@[simp] theorem truD_int (i : Int) : truD (.int i) = some (i != 0) := rfl
@[simp] theorem truD_none : truD .none = some false := rfl
@[simp] theorem truD_list (xs : List D) : truD (.list xs) = some !xs.isEmpty := rfl
@[simp] theorem truD_tuple (xs : List D) : truD (.tuple xs) = some !xs.isEmpty := rfl
@[simp] theorem pLen2_list (xs : List D) : pLen2 [.list xs] = some (.val (.int xs.length)) := rfl
@[simp] theorem pLen2_tuple (xs : List D) : pLen2 [.tuple xs] = some (.val (.int xs.length)) := rfl
@[simp] theorem pTuple_list (xs : List D) : pTuple [.list xs] = some (.val (.tuple xs)) := rfl
@[simp] theorem pTuple_tuple (xs : List D) : pTuple [.tuple xs] = some (.val (.tuple xs)) := rfl
@[simp] theorem pListC2_list (xs : List D) : pListC2 [.list xs] = some (.own (.lst xs)) := rfl
@[simp] theorem pListC2_tuple (xs : List D) : pListC2 [.tuple xs] = some (.own (.lst xs)) := rfl
@[simp] theorem pMax_int (i j : Int) : pMax [.int i, .int j] = some (.val (.int (max i j))) := rfl
@[simp] theorem pMin_int (i j : Int) : pMin [.int i, .int j] = some (.val (.int (min i j))) := rfl
@[simp] theorem zipOf_t (xs ys : List D) : zipOf [.tuple xs, .tuple ys] = some (zipD xs ys) := rfl
@[simp] theorem zipOf_l (xs ys : List D) : zipOf [.list xs, .list ys] = some (zipD xs ys) := rfl
@[simp] theorem pIsi_t (d : D) (hp : d.plain = true) : pIsi "tuple" d = some (.val (.bool d.isTuple)) := by simp [pIsi, hp, isiD, vB]
@[simp] theorem pIsi_l (d : D) (hp : d.plain = true) : pIsi "list" d = some (.val (.bool d.isList)) := by simp [pIsi, hp, isiD, vB]
@[simp] theorem pIsi_i (d : D) (hp : d.plain = true) : pIsi "int" d = some (.val (.bool d.isInt)) := by simp [pIsi, hp, isiD, vB]
@[simp] theorem pIsi_b (d : D) (hp : d.plain = true) : pIsi "bool" d = some (.val (.bool d.isBool)) := by simp [pIsi, hp, isiD, vB]
@[simp] theorem pIsi_s (d : D) (hp : d.plain = true) : pIsi "str" d = some (.val (.bool d.isStr)) := by simp [pIsi, hp, isiD, vB]
@[simp] theorem pIx2_t (xs : List D) (i : Int) : pIx2 (.tuple xs) (.int i) = (L2.atI xs i).map .val := rfl
@[simp] theorem pIx2_l (xs : List D) (i : Int) : pIx2 (.list xs) (.int i) = (L2.atI xs i).map .val := rfl
theorem atI_lt {α : Type} {xs : List α} {i : Nat} (h : i < xs.length) : L2.atI xs (i : Int) = some xs[i] := by
  simp [L2.atI, L2.ixN, h]
@[simp] theorem atI_0 {α : Type} (x : α) (xs : List α) : L2.atI (x :: xs) 0 = some x := atI_lt (xs := x :: xs) (i := 0) (by simp)
@[simp] theorem atI_1 {α : Type} (x y : α) (xs : List α) : L2.atI (x :: y :: xs) 1 = some y := atI_lt (xs := x :: y :: xs) (i := 1) (by simp)
@[simp] theorem atI_2 {α : Type} (x y z : α) (xs : List α) : L2.atI (x :: y :: z :: xs) 2 = some z := atI_lt (xs := x :: y :: z :: xs) (i := 2) (by simp)
theorem plainAll_iff {xs : List D} : PyData.plainAll xs = true ↔ ∀ d ∈ xs, d.plain = true := by
  induction xs with
  | nil => simp
  | cons x xs ih => simp [ih]
theorem sizeLine_big {n : Nat} (h : n ≤ 1000000) : n ≤ sizeLine := by rw [sizeLine_eq]; omega
end Sd
set_option Elab.async false
set_option linter.all false
set_option maxRecDepth 100000
set_option maxHeartbeats 4000000
set_option autoImplicit false
/-! Sd: comprehensions and loops over encoded items. -/
namespace Sd
open PySem PySem.Spec PyProof.Rows L2
section
variable {α : Type}
theorem sAll_map {vs : List Nat} {it : M (List D)} {tg : Tgt} {cond : M Bool} {dcs : List DCl} {f : M Sl} {ρ : Ev} (xs : List α) (enc : α → D) (p : α → Bool) (h1 : it ρ = .ok (xs.map enc) ρ) (hr : restoreE ρ (wipeE ρ vs) vs = ρ)
    (h2 : ∀ a ∈ xs, ∃ ρ', turnA tg cond (anyGo false f dcs) (enc a) (wipeE ρ vs) = .ok (!p a) ρ' ∧ (p a = true → wipeE ρ' tg.slots = wipeE ρ vs) ∧ restoreE ρ ρ' vs = ρ) :
    sAny true vs ⟨it, tg, cond⟩ dcs f ρ = .ok (.val (.bool (xs.all p))) ρ := by
  have h : ∀ (xs : List α), (∀ a ∈ xs, ∃ ρ', turnA tg cond (anyGo false f dcs) (enc a) (wipeE ρ vs) = .ok (!p a) ρ' ∧ (p a = true → wipeE ρ' tg.slots = wipeE ρ vs) ∧ restoreE ρ ρ' vs = ρ) → ∃ ρ', anyItems tg cond (anyGo false f dcs) (xs.map enc) (wipeE ρ vs) = .ok (!xs.all p) ρ' ∧ restoreE ρ ρ' vs = ρ := by
    intro xs
    induction xs with
    | nil => exact fun _ => ⟨_, rfl, hr⟩
    | cons a as ih =>
      intro h
      obtain ⟨ρ1, e1, e2, e3⟩ := h a (by simp)
      obtain ⟨ρ2, e4, e5⟩ := ih fun x hx => h x (by simp [hx])
      rw [List.map_cons, anyItems_step, e1, Res.bind_ok]
      cases hp : p a with
      | false => exact ⟨ρ1, by simp [hp], e3⟩
      | true => exact ⟨ρ2, by rw [if_neg (by simp), e2 hp, e4]; simp [hp], e5⟩
  obtain ⟨ρ', e, er⟩ := h xs h2
  unfold sAny
  simp only [Bool.not_true]
  rw [h1, Res.bind_ok, e]
  simp only
  rw [er]
  simp
theorem sAny_map {vs : List Nat} {it : M (List D)} {tg : Tgt} {cond : M Bool} {dcs : List DCl} {f : M Sl} {ρ : Ev} (xs : List α) (enc : α → D) (p : α → Bool) (h1 : it ρ = .ok (xs.map enc) ρ) (hr : restoreE ρ (wipeE ρ vs) vs = ρ)
    (h2 : ∀ a ∈ xs, ∃ ρ', turnA tg cond (anyGo true f dcs) (enc a) (wipeE ρ vs) = .ok (p a) ρ' ∧ (p a = false → wipeE ρ' tg.slots = wipeE ρ vs) ∧ restoreE ρ ρ' vs = ρ) :
    sAny false vs ⟨it, tg, cond⟩ dcs f ρ = .ok (.val (.bool (xs.any p))) ρ := by
  have h : ∀ (xs : List α), (∀ a ∈ xs, ∃ ρ', turnA tg cond (anyGo true f dcs) (enc a) (wipeE ρ vs) = .ok (p a) ρ' ∧ (p a = false → wipeE ρ' tg.slots = wipeE ρ vs) ∧ restoreE ρ ρ' vs = ρ) → ∃ ρ', anyItems tg cond (anyGo true f dcs) (xs.map enc) (wipeE ρ vs) = .ok (xs.any p) ρ' ∧ restoreE ρ ρ' vs = ρ := by
    intro xs
    induction xs with
    | nil => exact fun _ => ⟨_, rfl, hr⟩
    | cons a as ih =>
      intro h
      obtain ⟨ρ1, e1, e2, e3⟩ := h a (by simp)
      obtain ⟨ρ2, e4, e5⟩ := ih fun x hx => h x (by simp [hx])
      rw [List.map_cons, anyItems_step, e1, Res.bind_ok]
      cases hp : p a with
      | true => exact ⟨ρ1, by simp [hp], e3⟩
      | false => exact ⟨ρ2, by rw [if_neg (by simp), e2 hp, e4]; simp [hp], e5⟩
  obtain ⟨ρ', e, er⟩ := h xs h2
  unfold sAny
  simp only [Bool.not_false]
  rw [h1, Res.bind_ok, e]
  simp only
  rw [er]
  simp
theorem compItems_map {E : Type} {tg : Tgt} {cond : M Bool} {body : M (List E)} {ρ : Ev} (enc : α → D) {g : α → List E} : ∀ {items : List α}, (∀ a ∈ items, turnC tg cond body (enc a) ρ = .ok (g a) ρ) → compItems tg cond body (items.map enc) ρ = .ok (items.flatMap g) ρ
  | [], _ => rfl
  | d :: ds, h => by
    rw [List.map_cons, compItems_step, h d (by simp), Res.bind_ok, compItems_map enc fun x hx => h x (by simp [hx])]
    rfl
/-- one clause or many: each turn gives a row -/
theorem sLC_map {vs : List Nat} {it : M (List D)} {tg : Tgt} {cond : M Bool} {dcs : List DCl} {f : M Sl} {ρ : Ev} (xs : List α) (enc : α → D) (g : α → List D) (h1 : it ρ = .ok (xs.map enc) ρ) (hr : restoreE ρ (wipeE ρ vs) vs = ρ)
    (h2 : ∀ a ∈ xs, turnC tg cond (compGo (emit1 f) dcs) (enc a) (wipeE ρ vs) = .ok (g a) (wipeE ρ vs)) (hz : (xs.flatMap g).length ≤ sizeLine) :
    sListComp vs ⟨it, tg, cond⟩ dcs f ρ = .ok (.own (.lst (xs.flatMap g))) ρ := by
  rw [sListComp_run (dc := ⟨it, tg, cond⟩) h1 (compItems_map enc h2) hz, hr]
theorem flatMap_one {β : Type} (xs : List α) (f : α → β) : (xs.flatMap fun a => [f a]) = xs.map f := by
  induction xs with
  | nil => rfl
  | cons x xs ih => rw [List.flatMap_cons, ih]; rfl
theorem flatMap_if {β : Type} (xs : List α) (p : α → Bool) (f : α → β) : (xs.flatMap fun a => if p a = true then [f a] else []) = (xs.filter p).map f := by
  induction xs with
  | nil => rfl
  | cons x xs ih =>
    rw [List.flatMap_cons, ih, List.filter_cons]
    by_cases h : p x = true <;> simp [h]
theorem sLC_one {vs : List Nat} {it : M (List D)} {tg : Tgt} {cond : M Bool} {f : M Sl} {ρ : Ev} (xs : List α) (enc : α → D) (g : α → D) (h1 : it ρ = .ok (xs.map enc) ρ) (hr : restoreE ρ (wipeE ρ vs) vs = ρ)
    (h2 : ∀ a ∈ xs, turnC tg cond (emit1 f) (enc a) (wipeE ρ vs) = .ok [g a] (wipeE ρ vs)) (hz : xs.length ≤ sizeLine) :
    sListComp vs ⟨it, tg, cond⟩ [] f ρ = .ok (.own (.lst (xs.map g))) ρ := by
  rw [sLC_map (dcs := []) (f := f) xs enc (fun a => [g a]) h1 hr h2 (by rw [flatMap_one, List.length_map]; exact hz), flatMap_one]
theorem sLC_if {vs : List Nat} {it : M (List D)} {tg : Tgt} {cond : M Bool} {f : M Sl} {ρ : Ev} (xs : List α) (enc : α → D) (p : α → Bool) (g : α → D) (h1 : it ρ = .ok (xs.map enc) ρ) (hr : restoreE ρ (wipeE ρ vs) vs = ρ)
    (h2 : ∀ a ∈ xs, turnC tg cond (emit1 f) (enc a) (wipeE ρ vs) = .ok (if p a = true then [g a] else []) (wipeE ρ vs)) (hz : xs.length ≤ sizeLine) :
    sListComp vs ⟨it, tg, cond⟩ [] f ρ = .ok (.own (.lst ((xs.filter p).map g))) ρ := by
  have hl : ((xs.filter p).map g).length ≤ sizeLine := by
    rw [List.length_map]
    exact Nat.le_trans (List.length_filter_le _ _) hz
  rw [sLC_map (dcs := []) (f := f) xs enc (fun a => if p a = true then [g a] else []) h1 hr h2 (by rw [flatMap_if]; exact hl), flatMap_if]
/-- a loop over encoded items, by its invariant -/
theorem forItems_map {t : Tgt} {body : MS} (enc : α → D) {I : List α → Ev → Prop} : ∀ {items : List α} {ρ : Ev}, I items ρ → (∀ a as ρ, I (a :: as) ρ → ∃ ρ1 ρ2, assignT t (enc a) ρ = some ρ1 ∧ body ρ1 = .nx ρ2 ∧ I as ρ2) → ∃ ρ', forItems t body (items.map enc) ρ = .nx ρ' ∧ I [] ρ'
  | [], ρ, h, _ => ⟨ρ, rfl, h⟩
  | d :: ds, ρ, h, hs => by
    obtain ⟨ρ1, ρ2, e1, e2, e3⟩ := hs d ds ρ h
    obtain ⟨ρ', e4, e5⟩ := forItems_map enc e3 hs
    refine ⟨ρ', ?_, e5⟩
    rw [List.map_cons, forItems_cons, e1]
    simp only
    rw [e2, Out.turn_nx, e4]
end
theorem ofBody_ret {k : Nat} {f : M Sl} {ds : List D} {r : Sl} (ρ0 : Ev) {ρ : Ev} (h0 : ds.map (fun d => some (.val d)) ++ List.replicate k none = ρ0) (h : f ρ0 = .ok r ρ) : ofBody k (mRet f) ds = .ok r := by
  refine ofBody_rt (ρ := ρ) ?_
  rw [mRet_ap, h0, h]
  rfl
theorem ofBody_ret0 {k : Nat} {f : M Sl} {ds : List D} {r : Sl} (ρ0 : Ev) (h0 : ds.map (fun d => some (.val d)) ++ List.replicate k none = ρ0) (h : f ρ0 = .ok r ρ0) : ofBody k (mRet f) ds = .ok r := ofBody_ret ρ0 h0 h
theorem anyGo_cons (stop : Bool) (elt : M Sl) (cl : DCl) (cls : List DCl) (ρ : Ev) : anyGo stop elt (cl :: cls) ρ = (cl.it ρ).bind fun items ρ1 => anyItems cl.tg cl.cond (anyGo stop elt cls) items ρ1 := rfl
theorem compGo_cons {E : Type} (emit : M (List E)) (cl : DCl) (cls : List DCl) (ρ : Ev) : compGo emit (cl :: cls) ρ = (cl.it ρ).bind fun items ρ1 => compItems cl.tg cl.cond (compGo emit cls) items ρ1 := rfl
theorem depth_mem : ∀ {xs : List D} {n : Nat}, (∀ d ∈ xs, d.depth ≤ n) → PyData.depthAll xs ≤ n + 1
  | [], _, _ => by simp [PyData.depthAll]
  | x :: xs, n, h => by
    have h1 := h x (by simp)
    have h2 := depth_mem (xs := xs) (n := n) fun d hd => h d (by simp [hd])
    simp only [PyData.depthAll]
    omega
theorem sEqNil {f : M Sl} {xs : List D} {ρ ρ' : Ev} (h : f ρ = .ok (.own (.lst xs)) ρ') (hp : okEq (.list xs) = true) : sOp2 pEq (.ex f) (.ex (sLst aN)) ρ = .ok (.val (.bool xs.isEmpty)) ρ' := by
  rw [sOp2_ap, ph1_ex, h, Res.bind_ok, Res.bind_ok, ph1_ex, sLst_ap, aN_ap, Res.bind_ok, if_pos (by rw [List.length_nil]; exact Nat.zero_le _), Res.bind_ok, Res.bind_ok]
  simp only [ph2_ex, Option.bind_some, frz_lst, pEq, hp]
  have e : PyData.eqv (.list xs) (.list []) = xs.isEmpty := by cases xs <;> simp [PyData.eqv, PyData.eqvAll]
  rw [e]
  simp [vB, okEq, PyData.depth, PyData.depthAll, PyData.plain]
theorem sNeNil {f : M Sl} {xs : List D} {ρ ρ' : Ev} (h : f ρ = .ok (.own (.lst xs)) ρ') (hp : okEq (.list xs) = true) : sOp2 pNe (.ex f) (.ex (sLst aN)) ρ = .ok (.val (.bool (!xs.isEmpty))) ρ' := by
  rw [sOp2_ap, ph1_ex, h, Res.bind_ok, Res.bind_ok, ph1_ex, sLst_ap, aN_ap, Res.bind_ok, if_pos (by rw [List.length_nil]; exact Nat.zero_le _), Res.bind_ok, Res.bind_ok]
  simp only [ph2_ex, Option.bind_some, frz_lst, pNe, hp]
  have e : PyData.eqv (.list xs) (.list []) = xs.isEmpty := by cases xs <;> simp [PyData.eqv, PyData.eqvAll]
  rw [e]
  simp [vB, okEq, PyData.depth, PyData.depthAll, PyData.plain]
def eI (i : Int) : D := .int i
def eN (i : Nat) : D := .int (i : Int)
theorem rangeD_0 (n : Nat) : rangeD 0 n = (List.range n).map eN := by
  unfold rangeD
  congr 1
  funext i
  simp [eN]
theorem range1_n (n : Nat) (h : n ≤ 1000000) : range1Of [.int (n : Int)] = some ((List.range n).map eN) := by
  have e : (2 : Int) ^ 62 = 4611686018427387904 := by decide
  have h1 : -(2 ^ 62) ≤ (n : Int) ∧ (n : Int) < 2 ^ 62 := by rw [e]; constructor <;> omega
  unfold range1Of
  simp only
  rw [if_pos h1, Int.toNat_natCast, rangeD_0]
theorem sRange1_n {as : M (List D)} {ρ ρ' : Ev} {n : Nat} (h : as ρ = .ok [.int (n : Int)] ρ') (hn : n ≤ 1000000) : sRange1 as ρ = .ok ((List.range n).map eN) ρ' := by
  unfold sRange1
  rw [h, Res.bind_ok, range1_n n hn]
  exact Res.ofO_some _ _
theorem cutD_to (xs ys : List D) (k : Nat) (h : k = xs.length) : cutD (xs ++ ys) none (some (k : Int)) = xs := by
  subst h
  unfold cutD
  rw [HT.sIx_none, HT.sIx_nat]
  simp
theorem cutD_from (xs ys : List D) (k : Nat) (h : k = xs.length) : cutD (xs ++ ys) (some (k : Int)) none = ys := by
  subst h
  unfold cutD
  rw [HT.sIx_none, HT.sIx_nat]
  simp
theorem zipD_map {α β : Type} (f : α → D) (g : β → D) (xs : List α) (ys : List β) : zipD (xs.map f) (ys.map g) = (xs.zip ys).map fun p => .tuple [f p.1, g p.2] := by
  unfold zipD
  rw [List.zipWith_map, List.zip, List.map_zipWith]
theorem ix_map {α : Type} (enc : α → D) (xs : List α) {i : Nat} (h : i < xs.length) : L2.atI (xs.map enc) (i : Int) = some (enc xs[i]) := by
  rw [atI_lt (by simpa using h)]
  simp
end Sd
set_option Elab.async false
set_option linter.all false
set_option maxRecDepth 100000
set_option maxHeartbeats 4000000
set_option autoImplicit false
namespace Sd.K04
open PySem PySem.Spec PyProof.Rows L2 C8 Sd GenW GxR
def top (i : Nat) : Stmt := PySem.Challenge.pw_slideclear_k04_whole_boxes_and_things.main.body.getD i (.Pass ⟨0, 0, 0, 0⟩)
theorem bt_abs : bootBuiltins "abs" = some (.builtin "abs") := by decide +kernel
theorem bt_all : bootBuiltins "all" = some (.builtin "all") := by decide +kernel
theorem bt_any : bootBuiltins "any" = some (.builtin "any") := by decide +kernel
theorem bt_bool : bootBuiltins "bool" = some (.type "bool") := by decide +kernel
theorem bt_dict : bootBuiltins "dict" = some (.type "dict") := by decide +kernel
theorem bt_int : bootBuiltins "int" = some (.type "int") := by decide +kernel
theorem bt_isinstance : bootBuiltins "isinstance" = some (.builtin "isinstance") := by decide +kernel
theorem bt_len : bootBuiltins "len" = some (.builtin "len") := by decide +kernel
theorem bt_list : bootBuiltins "list" = some (.type "list") := by decide +kernel
theorem bt_max : bootBuiltins "max" = some (.builtin "max") := by decide +kernel
theorem bt_min : bootBuiltins "min" = some (.builtin "min") := by decide +kernel
theorem bt_range : bootBuiltins "range" = some (.type "range") := by decide +kernel
theorem bt_reversed : bootBuiltins "reversed" = some (.type "reversed") := by decide +kernel
theorem bt_sorted : bootBuiltins "sorted" = some (.builtin "sorted") := by decide +kernel
theorem bt_str : bootBuiltins "str" = some (.type "str") := by decide +kernel
theorem bt_sum : bootBuiltins "sum" = some (.builtin "sum") := by decide +kernel
theorem bt_tuple : bootBuiltins "tuple" = some (.type "tuple") := by decide +kernel
theorem bt_zip : bootBuiltins "zip" = some (.type "zip") := by decide +kernel
structure Tx (P : Program) (w : World) (K : PySem.W.Frag) (mg : Str → Option Value) (base : Heap) (tabs : List Addr) : Prop where
  f_is_number : ∃ (f : Addr) (fd : FuncData) (cdv : Value), DefC K mg "is_number" (top 2) cdv f fd
  f_is_word : ∃ (f : Addr) (fd : FuncData) (c Pt : Addr), DefC K mg "is_word" (top 3) (.ref c) f fd ∧ TabB base mg c Pt ∧ Pt ∈ tabs
  f_is_stretch : ∃ (f : Addr) (fd : FuncData) (c Pt : Addr), DefC K mg "is_stretch" (top 8) (.ref c) f fd ∧ TabB base mg c Pt ∧ Pt ∈ tabs
  f_is_box : ∃ (f : Addr) (fd : FuncData) (c Pt : Addr), DefC K mg "is_box" (top 7) (.ref c) f fd ∧ TabB base mg c Pt ∧ Pt ∈ tabs
  f_is_place : ∃ (f : Addr) (fd : FuncData) (c Pt : Addr), DefC K mg "is_place" (top 9) (.ref c) f fd ∧ TabB base mg c Pt ∧ Pt ∈ tabs
  f_clash : ∃ (f : Addr) (fd : FuncData) (c Pt : Addr), DefC K mg "clash" (top 10) (.ref c) f fd ∧ TabB base mg c Pt ∧ Pt ∈ tabs
  f_shared : ∃ (f : Addr) (fd : FuncData) (cdv : Value), DefC K mg "shared" (top 11) cdv f fd
  f_shifted : ∃ (f : Addr) (fd : FuncData) (cdv : Value), DefC K mg "shifted" (top 12) cdv f fd
  f_holds : ∃ (f : Addr) (fd : FuncData) (c Pt : Addr), DefC K mg "holds" (top 13) (.ref c) f fd ∧ TabB base mg c Pt ∧ Pt ∈ tabs
  f_room_of : ∃ (f : Addr) (fd : FuncData) (cdv : Value), DefC K mg "room_of" (top 14) cdv f fd
  f_is_thing : ∃ (f : Addr) (fd : FuncData) (c Pt : Addr), DefC K mg "is_thing" (top 17) (.ref c) f fd ∧ TabB base mg c Pt ∧ Pt ∈ tabs
  f_dimension : ∃ (f : Addr) (fd : FuncData) (cdv : Value), DefC K mg "dimension" (top 18) cdv f fd
  f_at : ∃ (f : Addr) (fd : FuncData) (cdv : Value), DefC K mg "at" (top 19) cdv f fd
  f_clashes : ∃ (f : Addr) (fd : FuncData) (c Pt : Addr), DefC K mg "clashes" (top 20) (.ref c) f fd ∧ TabB base mg c Pt ∧ Pt ∈ tabs
  f_without : ∃ (f : Addr) (fd : FuncData) (cdv : Value), DefC K mg "without" (top 22) cdv f fd
  f_apart : ∃ (f : Addr) (fd : FuncData) (cdv : Value), DefC K mg "apart" (top 21) cdv f fd
  f_volume : ∃ (f : Addr) (fd : FuncData) (cdv : Value), DefC K mg "volume" (top 23) cdv f fd
  f_same_room : ∃ (f : Addr) (fd : FuncData) (cdv : Value), DefC K mg "same_room" (top 24) cdv f fd
  f_hull : ∃ (f : Addr) (fd : FuncData) (cdv : Value), DefC K mg "hull" (top 25) cdv f fd
  f__law_draws : ∃ (f : Addr) (fd : FuncData) (cdv : Value), DefC K mg "_law_draws" (top 27) cdv f fd
  f__law_take : ∃ (f : Addr) (fd : FuncData) (cdv : Value), DefC K mg "_law_take" (top 28) cdv f fd
  f__law_alike : ∃ (f : Addr) (fd : FuncData) (cdv : Value), DefC K mg "_law_alike" (top 29) cdv f fd
  f__law_says : ∃ (f : Addr) (fd : FuncData) (cdv : Value), DefC K mg "_law_says" (top 30) cdv f fd
  f__law_box : ∃ (f : Addr) (fd : FuncData) (cdv : Value), DefC K mg "_law_box" (top 31) cdv f fd
  f__law_thing : ∃ (f : Addr) (fd : FuncData) (cdv : Value), DefC K mg "_law_thing" (top 32) cdv f fd
  f__law_clash : ∃ (f : Addr) (fd : FuncData) (cdv : Value), DefC K mg "_law_clash" (top 33) cdv f fd
  f__law_within : ∃ (f : Addr) (fd : FuncData) (cdv : Value), DefC K mg "_law_within" (top 34) cdv f fd
  f__law_units : ∃ (f : Addr) (fd : FuncData) (cdv : Value), DefC K mg "_law_units" (top 35) cdv f fd
  f__law_bent : ∃ (f : Addr) (fd : FuncData) (cdv : Value), DefC K mg "_law_bent" (top 36) cdv f fd
  b_abs : mg "abs" = none
  b_all : mg "all" = none
  b_any : mg "any" = none
  b_bool : mg "bool" = none
  b_dict : mg "dict" = none
  b_int : mg "int" = none
  b_isinstance : mg "isinstance" = none
  b_len : mg "len" = none
  b_list : mg "list" = none
  b_max : mg "max" = none
  b_min : mg "min" = none
  b_range : mg "range" = none
  b_reversed : mg "reversed" = none
  b_sorted : mg "sorted" = none
  b_str : mg "str" = none
  b_sum : mg "sum" = none
  b_tuple : mg "tuple" = none
  b_zip : mg "zip" = none
  k_LETTERS : ∃ t : Tok, mg "LETTERS" = some (.str "abcdefghijklmnopqrstuvwxyz" t)
  k_MOST_BOXES : ∃ t : Tok, mg "MOST_BOXES" = some (.int 8 t)
  k_MOST_CORNER : ∃ t : Tok, mg "MOST_CORNER" = some (.int 1000 t)
  k_MOST_PLACE : ∃ t : Tok, mg "MOST_PLACE" = some (.int 4000 t)
section
variable {P : Program} {w : World} {K : PySem.W.Frag} {mg : Str → Option Value} {base : Heap} {tabs : List Addr}
def N_is_number : List Str := ["value", "least", "most"]
noncomputable def m_is_number : MS := (mRet (sAnd (sOp1 (pIsi "int") (.nm 0)) (sAnd (sNot (sOp1 (pIsi "bool") (.nm 0))) (sCh pLe pLe (.nm 1) (.nm 0) (.nm 2)))))
noncomputable def F_is_number : Fn := ofBody 0 m_is_number
theorem S_is_number : FnScope N_is_number ["value", "least", "most"] (fnScope (top 2)) := C8.fnScope_by (by decide +kernel)
theorem ok_is_number (x : Tx P w K mg base tabs) : Cal P w K mg base 1 "is_number" (dSp ⟨P, w, K⟩ tabs 3 F_is_number) [] := by
  obtain ⟨f, fd, cdv, D⟩ := x.f_is_number
  refine cal_fn (N := N_is_number) (k := 0) D (fun _ _ _ _ _ _ us hl => match us, hl with | [_, _, _], _ => rfl) S_is_number rfl fun A outer s H E hr => ?_
  refine pss_1D ?_
  exact ps_retD (pe_andD (pe_isiD (by first | rfl | decide) x.b_isinstance (by first | rfl | decide) x.b_int bt_int rfl (pv 0)) (pe_andD (pe_notD (pe_isiD (by first | rfl | decide) x.b_isinstance (by first | rfl | decide) x.b_bool bt_bool rfl (pv 0))) (pe_one (pe_chD (op_leD (Room.units hr)) (op_leD (Room.units hr)) (by with_unfolding_all rfl) (pv 1) (pv 0) (pv 2)))))
def N_is_word : List Str := ["value", "sign"]
noncomputable def m_is_word : MS := (mRet (sAnd (sOp1 (pIsi "str") (.nm 0)) (sAnd (sCh pLe pLe (.ex (sC (.int 1))) (.ex (sN pLen2 [(.nm 0)])) (.ex (sC (.int 6)))) (sAny true [1] ⟨(sIt (sVar 0)), (.nm 1), bYes⟩ [] (sOp2 pIn2 (.nm 1) (.ex (sC (.str "abcdefghijklmnopqrstuvwxyz"))))))))
noncomputable def F_is_word : Fn := ofBody 1 m_is_word
theorem S_is_word : FnScope N_is_word ["value"] (fnScope (top 3)) := C8.fnScope_by (by decide +kernel)
theorem ok_is_word (x : Tx P w K mg base tabs) : Cal P w K mg base 4 "is_word" (dSp ⟨P, w, K⟩ tabs 1 F_is_word) [] := by
  obtain ⟨f, fd, c, Pt, D, TB, hP⟩ := x.f_is_word
  obtain ⟨_, x_LETTERS⟩ := x.k_LETTERS
  refine cal_fn (N := N_is_word) (k := 3) D (fun _ _ _ _ _ _ us hl => match us, hl with | [_], _ => rfl) S_is_word rfl fun A outer s H E hr => ?_
  refine pss_1D ?_
  exact ps_retD (pe_andD (pe_isiD (by first | rfl | decide) x.b_isinstance (by first | rfl | decide) x.b_str bt_str rfl (pv 0)) (pe_andD (pe_chD (op_leD (Room.units hr)) (op_leD (Room.units hr)) (by with_unfolding_all rfl) pe_iD (pe_bD cr_len2 bt_len (by first | rfl | decide) x.b_len (POs.cons rfl (pv 0) POs.nil) rfl) pe_iD) (pe_one (pe_allN (own := [("sign", 1)]) (GcOk.mk rfl S_is_word.nd ⟨_, hr⟩ (pi_D (pe_varD (pv 0))) (gblk_by (by kernel_rfl)) (fun _ _ _ _ _ _ _ => ⟨rfl, (pg_nm S_is_word.nd rfl (by first | exact Or.inl rfl | exact Or.inr rfl) (by first | exact Or.inl rfl | exact Or.inr rfl) hL0n), pts_nD⟩) (fun _ _ _ _ _ _ _ => ClIns.nil) (fun _ _ _ _ _ _ _ => (pe_cmpD (op_in2 (Room.units (room_g hr))) (by with_unfolding_all rfl) (pv 1) (pe_kS x_LETTERS (by first | rfl | decide)))) (fun _ => rfl) (show List.Nodup [1] from by decide) (show ∀ i ∈ ([1] : List Nat), i ∈ ([1] : List Nat) from by decide) hL0m ⟨_, _, TB, rfl, hP⟩) (by first | rfl | decide) x.b_all))))
def N_is_stretch : List Str := ["value", "one"]
noncomputable def m_is_stretch : MS := (mSeq (mIf (bOr (bNot (bTru (.ex (sOp1 (pIsi "tuple") (.nm 0))))) (bVal (sOp2 pNe (.ex (sN pLen2 [(.nm 0)])) (.ex (sC (.int 2)))))) (mRet (sC (.bool false))) mNext) (mRet (sAnd (sAny true [1] ⟨(sIt (sVar 0)), (.nm 1), bYes⟩ [] (sCall F_is_number (aC (sVar 1) (aC (sOp1 pNeg (.ex (sC (.int 1000)))) (aC (sC (.int 1000)) aN))))) (sOp2 pLt (.ex (sOp2 pIx2 (.nm 0) (.ex (sC (.int 0))))) (.ex (sOp2 pIx2 (.nm 0) (.ex (sC (.int 1)))))))))
noncomputable def F_is_stretch : Fn := ofBody 1 m_is_stretch
theorem S_is_stretch : FnScope N_is_stretch ["value"] (fnScope (top 8)) := C8.fnScope_by (by decide +kernel)
theorem ok_is_stretch (x : Tx P w K mg base tabs) : Cal P w K mg base 5 "is_stretch" (dSp ⟨P, w, K⟩ tabs 1 F_is_stretch) [] := by
  obtain ⟨f, fd, c, Pt, D, TB, hP⟩ := x.f_is_stretch
  obtain ⟨_, x_MOST_CORNER⟩ := x.k_MOST_CORNER
  refine cal_fn (N := N_is_stretch) (k := 4) D (fun _ _ _ _ _ _ us hl => match us, hl with | [_], _ => rfl) S_is_stretch rfl fun A outer s H E hr => ?_
  refine pss_cD ?_ ?_
  · refine ps_ifD (PW.pt (pw_orD (pt_notD (pt_truD (pe_isiD (by first | rfl | decide) x.b_isinstance (by first | rfl | decide) x.b_tuple bt_tuple rfl (pv 0)))) (pw_or1D (pt_cmpD (op_neDD (Room.units hr)) (nomark _) (pe_bD cr_len2 bt_len (by first | rfl | decide) x.b_len (POs.cons rfl (pv 0) POs.nil) rfl) pe_iD)))) ?_ ?_
    · refine pss_1D ?_
      exact ps_retD pe_bD'
    · exact pss_nD
  refine pss_1D ?_
  exact ps_retD (pe_andD (pe_allN (own := [("one", 1)]) (GcOk.mk rfl S_is_stretch.nd ⟨_, hr⟩ (pi_D (pe_varD (pv 0))) (gblk_by (by kernel_rfl)) (fun _ _ _ _ _ _ _ => ⟨rfl, (pg_nm S_is_stretch.nd rfl (by first | exact Or.inl rfl | exact Or.inr rfl) (by first | exact Or.inl rfl | exact Or.inr rfl) hL0n), pts_nD⟩) (fun _ _ _ _ _ _ _ => ClIns.nil) (fun _ _ _ _ _ _ _ => (pe_fnD (ok_is_number x) (room_g hr) (by decide) (by first | rfl | decide) (pa_cD (pe_varD (pv 1)) (pa_cD (pe_unD un_negD (pe_kI x_MOST_CORNER (by first | rfl | decide))) (pa_cD (pe_kI x_MOST_CORNER (by first | rfl | decide)) pa_nD rfl) rfl) rfl) rfl (len_C (len_C (len_C len_N))) rfl)) (fun _ => rfl) (show List.Nodup [1] from by decide) (show ∀ i ∈ ([1] : List Nat), i ∈ ([1] : List Nat) from by decide) hL0m ⟨_, _, TB, rfl, hP⟩) (by first | rfl | decide) x.b_all) (pe_one (pe_cmpD (op_ltD (Room.units hr)) (nomark _) (pe_ixD (ix_D2 (Room.units hr)) (by intro _ _; rfl) (pv 0) pe_iD) (pe_ixD (ix_D2 (Room.units hr)) (by intro _ _; rfl) (pv 0) pe_iD))))
def N_is_box : List Str := ["value", "one"]
noncomputable def m_is_box : MS := (mSeq (mIf (bOr (bNot (bTru (.ex (sOp1 (pIsi "tuple") (.nm 0))))) (bVal (sOp2 pNotIn2 (.ex (sN pLen2 [(.nm 0)])) (.ex (sTup (aC (sC (.int 2)) (aC (sC (.int 3)) aN))))))) (mRet (sC (.bool false))) mNext) (mRet (sAny true [1] ⟨(sIt (sVar 0)), (.nm 1), bYes⟩ [] (sCall F_is_stretch (aC (sVar 1) aN)))))
noncomputable def F_is_box : Fn := ofBody 1 m_is_box
theorem S_is_box : FnScope N_is_box ["value"] (fnScope (top 7)) := C8.fnScope_by (by decide +kernel)
theorem ok_is_box (x : Tx P w K mg base tabs) : Cal P w K mg base 9 "is_box" (dSp ⟨P, w, K⟩ tabs 1 F_is_box) [] := by
  obtain ⟨f, fd, c, Pt, D, TB, hP⟩ := x.f_is_box
  refine cal_fn (N := N_is_box) (k := 8) D (fun _ _ _ _ _ _ us hl => match us, hl with | [_], _ => rfl) S_is_box rfl fun A outer s H E hr => ?_
  refine pss_cD ?_ ?_
  · refine ps_ifD (PW.pt (pw_orD (pt_notD (pt_truD (pe_isiD (by first | rfl | decide) x.b_isinstance (by first | rfl | decide) x.b_tuple bt_tuple rfl (pv 0)))) (pw_or1D (pt_cmpD (op_notIn2 (Room.units hr)) (by with_unfolding_all rfl) (pe_bD cr_len2 bt_len (by first | rfl | decide) x.b_len (POs.cons rfl (pv 0) POs.nil) rfl) (pe_tupD (pa_cD pe_iD (pa_cD pe_iD pa_nD rfl) rfl)))))) ?_ ?_
    · refine pss_1D ?_
      exact ps_retD pe_bD'
    · exact pss_nD
  refine pss_1D ?_
  exact ps_retD (pe_allN (own := [("one", 1)]) (GcOk.mk rfl S_is_box.nd ⟨_, hr⟩ (pi_D (pe_varD (pv 0))) (gblk_by (by kernel_rfl)) (fun _ _ _ _ _ _ _ => ⟨rfl, (pg_nm S_is_box.nd rfl (by first | exact Or.inl rfl | exact Or.inr rfl) (by first | exact Or.inl rfl | exact Or.inr rfl) hL0n), pts_nD⟩) (fun _ _ _ _ _ _ _ => ClIns.nil) (fun _ _ _ _ _ _ _ => (pe_fnD (ok_is_stretch x) (room_g hr) (by decide) (by first | rfl | decide) (pa_cD (pe_varD (pv 1)) pa_nD rfl) rfl (len_C len_N) rfl)) (fun _ => rfl) (show List.Nodup [1] from by decide) (show ∀ i ∈ ([1] : List Nat), i ∈ ([1] : List Nat) from by decide) hL0m ⟨_, _, TB, rfl, hP⟩) (by first | rfl | decide) x.b_all)
def N_is_place : List Str := ["value", "dimension", "one"]
noncomputable def m_is_place : MS := (mSeq (mIf (bOr (bNot (bTru (.ex (sOp1 (pIsi "tuple") (.nm 0))))) (bVal (sOp2 pNe (.ex (sN pLen2 [(.nm 0)])) (.nm 1)))) (mRet (sC (.bool false))) mNext) (mRet (sAny true [2] ⟨(sIt (sVar 0)), (.nm 2), bYes⟩ [] (sCall F_is_number (aC (sVar 2) (aC (sOp1 pNeg (.ex (sC (.int 4000)))) (aC (sC (.int 4000)) aN)))))))
noncomputable def F_is_place : Fn := ofBody 1 m_is_place
theorem S_is_place : FnScope N_is_place ["value", "dimension"] (fnScope (top 9)) := C8.fnScope_by (by decide +kernel)
theorem ok_is_place (x : Tx P w K mg base tabs) : Cal P w K mg base 5 "is_place" (dSp ⟨P, w, K⟩ tabs 2 F_is_place) [] := by
  obtain ⟨f, fd, c, Pt, D, TB, hP⟩ := x.f_is_place
  obtain ⟨_, x_MOST_PLACE⟩ := x.k_MOST_PLACE
  refine cal_fn (N := N_is_place) (k := 4) D (fun _ _ _ _ _ _ us hl => match us, hl with | [_, _], _ => rfl) S_is_place rfl fun A outer s H E hr => ?_
  refine pss_cD ?_ ?_
  · refine ps_ifD (PW.pt (pw_orD (pt_notD (pt_truD (pe_isiD (by first | rfl | decide) x.b_isinstance (by first | rfl | decide) x.b_tuple bt_tuple rfl (pv 0)))) (pw_or1D (pt_cmpD (op_neDD (Room.units hr)) (nomark _) (pe_bD cr_len2 bt_len (by first | rfl | decide) x.b_len (POs.cons rfl (pv 0) POs.nil) rfl) (pv 1))))) ?_ ?_
    · refine pss_1D ?_
      exact ps_retD pe_bD'
    · exact pss_nD
  refine pss_1D ?_
  exact ps_retD (pe_allN (own := [("one", 2)]) (GcOk.mk rfl S_is_place.nd ⟨_, hr⟩ (pi_D (pe_varD (pv 0))) (gblk_by (by kernel_rfl)) (fun _ _ _ _ _ _ _ => ⟨rfl, (pg_nm S_is_place.nd rfl (by first | exact Or.inl rfl | exact Or.inr rfl) (by first | exact Or.inl rfl | exact Or.inr rfl) hL0n), pts_nD⟩) (fun _ _ _ _ _ _ _ => ClIns.nil) (fun _ _ _ _ _ _ _ => (pe_fnD (ok_is_number x) (room_g hr) (by decide) (by first | rfl | decide) (pa_cD (pe_varD (pv 2)) (pa_cD (pe_unD un_negD (pe_kI x_MOST_PLACE (by first | rfl | decide))) (pa_cD (pe_kI x_MOST_PLACE (by first | rfl | decide)) pa_nD rfl) rfl) rfl) rfl (len_C (len_C (len_C len_N))) rfl)) (fun _ => rfl) (show List.Nodup [2] from by decide) (show ∀ i ∈ ([2] : List Nat), i ∈ ([2] : List Nat) from by decide) hL0m ⟨_, _, TB, rfl, hP⟩) (by first | rfl | decide) x.b_all)
def N_clash : List Str := ["one", "other", "first", "second"]
noncomputable def m_clash : MS := (mRet (sAny true [2, 3] ⟨(sZip (aC (sVar 0) (aC (sVar 1) aN))), (.tup [(.nm 2), (.nm 3)]), bYes⟩ [] (sAnd (sOp2 pLt (.ex (sOp2 pIx2 (.nm 2) (.ex (sC (.int 0))))) (.ex (sOp2 pIx2 (.nm 3) (.ex (sC (.int 1)))))) (sOp2 pLt (.ex (sOp2 pIx2 (.nm 3) (.ex (sC (.int 0))))) (.ex (sOp2 pIx2 (.nm 2) (.ex (sC (.int 1)))))))))
noncomputable def F_clash : Fn := ofBody 2 m_clash
theorem S_clash : FnScope N_clash ["one", "other"] (fnScope (top 10)) := C8.fnScope_by (by decide +kernel)
theorem ok_clash (x : Tx P w K mg base tabs) : Cal P w K mg base 4 "clash" (dSp ⟨P, w, K⟩ tabs 2 F_clash) [] := by
  obtain ⟨f, fd, c, Pt, D, TB, hP⟩ := x.f_clash
  refine cal_fn (N := N_clash) (k := 3) D (fun _ _ _ _ _ _ us hl => match us, hl with | [_, _], _ => rfl) S_clash rfl fun A outer s H E hr => ?_
  refine pss_1D ?_
  exact ps_retD (pe_allN (own := [("first", 2), ("second", 3)]) (GcOk.mk rfl S_clash.nd ⟨_, hr⟩ (pi_zipD (by first | rfl | decide) x.b_zip (pa_cD (pe_varD (pv 0)) (pa_cD (pe_varD (pv 1)) pa_nD rfl) rfl) rfl rfl) (gblk_by (by kernel_rfl)) (fun _ _ _ _ _ _ _ => ⟨rfl, (pg_tp rfl rfl (pgs_c rfl (pg_nm S_clash.nd rfl (by first | exact Or.inl rfl | exact Or.inr rfl) (by first | exact Or.inl rfl | exact Or.inr rfl) hL0n) (pgs_c rfl (pg_nm S_clash.nd rfl (by first | exact Or.inl rfl | exact Or.inr rfl) (by first | exact Or.inl rfl | exact Or.inr rfl) hL0n) pgs_n)) rfl), pts_nD⟩) (fun _ _ _ _ _ _ _ => ClIns.nil) (fun _ _ _ _ _ _ _ => (pe_andD (pe_cmpD (op_ltD (Room.units (room_g hr))) (nomark _) (pe_ixD (ix_D2 (Room.units (room_g hr))) (by intro _ _; rfl) (pv 2) pe_iD) (pe_ixD (ix_D2 (Room.units (room_g hr))) (by intro _ _; rfl) (pv 3) pe_iD)) (pe_one (pe_cmpD (op_ltD (Room.units (room_g hr))) (nomark _) (pe_ixD (ix_D2 (Room.units (room_g hr))) (by intro _ _; rfl) (pv 3) pe_iD) (pe_ixD (ix_D2 (Room.units (room_g hr))) (by intro _ _; rfl) (pv 2) pe_iD))))) (fun _ => rfl) (show List.Nodup [2, 3] from by decide) (show ∀ i ∈ ([2, 3] : List Nat), i ∈ ([2, 3] : List Nat) from by decide) hL0m ⟨_, _, TB, rfl, hP⟩) (by first | rfl | decide) x.b_all)
def N_shared : List Str := ["one", "other", "first", "second"]
noncomputable def m_shared : MS := (mSeq (mIf (bNot (bTru (.ex (sCall F_clash (aC (sVar 0) (aC (sVar 1) aN)))))) (mRet (sC .none)) mNext) (mRet (sN pTuple [(.ex (sListComp [2, 3] ⟨(sZip (aC (sVar 0) (aC (sVar 1) aN))), (.tup [(.nm 2), (.nm 3)]), bYes⟩ [] (sTup (aC (sN pMax [(.ex (sOp2 pIx2 (.nm 2) (.ex (sC (.int 0))))), (.ex (sOp2 pIx2 (.nm 3) (.ex (sC (.int 0)))))]) (aC (sN pMin [(.ex (sOp2 pIx2 (.nm 2) (.ex (sC (.int 1))))), (.ex (sOp2 pIx2 (.nm 3) (.ex (sC (.int 1)))))]) aN)))))])))
noncomputable def F_shared : Fn := ofBody 2 m_shared
theorem S_shared : FnScope N_shared ["one", "other"] (fnScope (top 11)) := C8.fnScope_by (by decide +kernel)
theorem ok_shared (x : Tx P w K mg base tabs) : Cal P w K mg base 5 "shared" (dSp ⟨P, w, K⟩ tabs 2 F_shared) [] := by
  obtain ⟨f, fd, cdv, D⟩ := x.f_shared
  refine cal_fn (N := N_shared) (k := 4) D (fun _ _ _ _ _ _ us hl => match us, hl with | [_, _], _ => rfl) S_shared rfl fun A outer s H E hr => ?_
  refine pss_cD ?_ ?_
  · refine ps_ifD (pt_notD (pt_truD (pe_fnD (ok_clash x) hr (by decide) (by first | rfl | decide) (pa_cD (pe_varD (pv 0)) (pa_cD (pe_varD (pv 1)) pa_nD rfl) rfl) rfl (len_C (len_C len_N)) rfl))) ?_ ?_
    · refine pss_1D ?_
      exact ps_retD pe_nD
    · exact pss_nD
  refine pss_1D ?_
  exact ps_retD (pe_tD cr_tuple bt_tuple (by first | rfl | decide) x.b_tuple (POs.cons rfl (pe_lcN (own := [("first", 2), ("second", 3)]) (LcOk.mk rfl S_shared.nd (pi_zipD (by first | rfl | decide) x.b_zip (pa_cD (pe_varD (pv 0)) (pa_cD (pe_varD (pv 1)) pa_nD rfl) rfl) rfl rfl) (blk_by (by kernel_rfl)) (fun _ _ _ _ _ => ⟨rfl, (pg_tp rfl rfl (pgs_c rfl (pg_nm S_shared.nd rfl (by first | exact Or.inl rfl | exact Or.inr rfl) (by first | exact Or.inl rfl | exact Or.inr rfl) hL0n) (pgs_c rfl (pg_nm S_shared.nd rfl (by first | exact Or.inl rfl | exact Or.inr rfl) (by first | exact Or.inl rfl | exact Or.inr rfl) hL0n) pgs_n)) rfl), pts_nD⟩) (fun _ _ _ _ _ => ClIns.nil) (fun _ _ _ _ _ => (pe_tupD (pa_cD (pe_bD (cr_maxD rfl) bt_max (by first | rfl | decide) x.b_max (POs.cons rfl (pe_ixD (ix_D2 (Room.units hr)) (by intro _ _; rfl) (pv 2) pe_iD) (POs.cons rfl (pe_ixD (ix_D2 (Room.units hr)) (by intro _ _; rfl) (pv 3) pe_iD) POs.nil)) rfl) (pa_cD (pe_bD (cr_minD rfl) bt_min (by first | rfl | decide) x.b_min (POs.cons rfl (pe_ixD (ix_D2 (Room.units hr)) (by intro _ _; rfl) (pv 2) pe_iD) (POs.cons rfl (pe_ixD (ix_D2 (Room.units hr)) (by intro _ _; rfl) (pv 3) pe_iD) POs.nil)) rfl) pa_nD rfl) rfl))) (fun _ => rfl) (show List.Nodup [2, 3] from by decide) (show ∀ i ∈ ([2, 3] : List Nat), i ∈ ([2, 3] : List Nat) from by decide) hL0m)) POs.nil) rfl)
def N_shifted : List Str := ["box", "place", "low", "high", "step"]
noncomputable def m_shifted : MS := (mRet (sN pTuple [(.ex (sListComp [2, 3, 4] ⟨(sZip (aC (sVar 0) (aC (sVar 1) aN))), (.tup [(.tup [(.nm 2), (.nm 3)]), (.nm 4)]), bYes⟩ [] (sTup (aC (sOp2 pAdd (.nm 2) (.nm 4)) (aC (sOp2 pAdd (.nm 3) (.nm 4)) aN)))))]))
noncomputable def F_shifted : Fn := ofBody 3 m_shifted
theorem S_shifted : FnScope N_shifted ["box", "place"] (fnScope (top 12)) := C8.fnScope_by (by decide +kernel)
theorem ok_shifted (x : Tx P w K mg base tabs) : Cal P w K mg base 1 "shifted" (dSp ⟨P, w, K⟩ tabs 2 F_shifted) [] := by
  obtain ⟨f, fd, cdv, D⟩ := x.f_shifted
  refine cal_fn (N := N_shifted) (k := 0) D (fun _ _ _ _ _ _ us hl => match us, hl with | [_, _], _ => rfl) S_shifted rfl fun A outer s H E hr => ?_
  refine pss_1D ?_
  exact ps_retD (pe_tD cr_tuple bt_tuple (by first | rfl | decide) x.b_tuple (POs.cons rfl (pe_lcN (own := [("low", 2), ("high", 3), ("step", 4)]) (LcOk.mk rfl S_shifted.nd (pi_zipD (by first | rfl | decide) x.b_zip (pa_cD (pe_varD (pv 0)) (pa_cD (pe_varD (pv 1)) pa_nD rfl) rfl) rfl rfl) (blk_by (by kernel_rfl)) (fun _ _ _ _ _ => ⟨rfl, (pg_tp rfl rfl (pgs_c rfl (pg_tp rfl rfl (pgs_c rfl (pg_nm S_shifted.nd rfl (by first | exact Or.inl rfl | exact Or.inr rfl) (by first | exact Or.inl rfl | exact Or.inr rfl) hL0n) (pgs_c rfl (pg_nm S_shifted.nd rfl (by first | exact Or.inl rfl | exact Or.inr rfl) (by first | exact Or.inl rfl | exact Or.inr rfl) hL0n) pgs_n)) rfl) (pgs_c rfl (pg_nm S_shifted.nd rfl (by first | exact Or.inl rfl | exact Or.inr rfl) (by first | exact Or.inl rfl | exact Or.inr rfl) hL0n) pgs_n)) rfl), pts_nD⟩) (fun _ _ _ _ _ => ClIns.nil) (fun _ _ _ _ _ => (pe_tupD (pa_cD (pe_opD op_addD (pv 2) (pv 4)) (pa_cD (pe_opD op_addD (pv 3) (pv 4)) pa_nD rfl) rfl))) (fun _ => rfl) (show List.Nodup [2, 3, 4] from by decide) (show ∀ i ∈ ([2, 3, 4] : List Nat), i ∈ ([2, 3, 4] : List Nat) from by decide) hL0m)) POs.nil) rfl)
def N_holds : List Str := ["box", "place", "low", "high", "step"]
noncomputable def m_holds : MS := (mRet (sAny true [2, 3, 4] ⟨(sZip (aC (sVar 0) (aC (sVar 1) aN))), (.tup [(.tup [(.nm 2), (.nm 3)]), (.nm 4)]), bYes⟩ [] (sCh pLt pLt (.nm 2) (.nm 4) (.nm 3))))
noncomputable def F_holds : Fn := ofBody 3 m_holds
theorem S_holds : FnScope N_holds ["box", "place"] (fnScope (top 13)) := C8.fnScope_by (by decide +kernel)
theorem ok_holds (x : Tx P w K mg base tabs) : Cal P w K mg base 4 "holds" (dSp ⟨P, w, K⟩ tabs 2 F_holds) [] := by
  obtain ⟨f, fd, c, Pt, D, TB, hP⟩ := x.f_holds
  refine cal_fn (N := N_holds) (k := 3) D (fun _ _ _ _ _ _ us hl => match us, hl with | [_, _], _ => rfl) S_holds rfl fun A outer s H E hr => ?_
  refine pss_1D ?_
  exact ps_retD (pe_allN (own := [("low", 2), ("high", 3), ("step", 4)]) (GcOk.mk rfl S_holds.nd ⟨_, hr⟩ (pi_zipD (by first | rfl | decide) x.b_zip (pa_cD (pe_varD (pv 0)) (pa_cD (pe_varD (pv 1)) pa_nD rfl) rfl) rfl rfl) (gblk_by (by kernel_rfl)) (fun _ _ _ _ _ _ _ => ⟨rfl, (pg_tp rfl rfl (pgs_c rfl (pg_tp rfl rfl (pgs_c rfl (pg_nm S_holds.nd rfl (by first | exact Or.inl rfl | exact Or.inr rfl) (by first | exact Or.inl rfl | exact Or.inr rfl) hL0n) (pgs_c rfl (pg_nm S_holds.nd rfl (by first | exact Or.inl rfl | exact Or.inr rfl) (by first | exact Or.inl rfl | exact Or.inr rfl) hL0n) pgs_n)) rfl) (pgs_c rfl (pg_nm S_holds.nd rfl (by first | exact Or.inl rfl | exact Or.inr rfl) (by first | exact Or.inl rfl | exact Or.inr rfl) hL0n) pgs_n)) rfl), pts_nD⟩) (fun _ _ _ _ _ _ _ => ClIns.nil) (fun _ _ _ _ _ _ _ => (pe_chD (op_ltD (Room.units (room_g hr))) (op_ltD (Room.units (room_g hr))) (by with_unfolding_all rfl) (pv 2) (pv 4) (pv 3))) (fun _ => rfl) (show List.Nodup [2, 3, 4] from by decide) (show ∀ i ∈ ([2, 3, 4] : List Nat), i ∈ ([2, 3, 4] : List Nat) from by decide) hL0m ⟨_, _, TB, rfl, hP⟩) (by first | rfl | decide) x.b_all)
def N_room_of : List Str := ["box", "found", "low", "high"]
noncomputable def m_room_of : MS := (mSeq (mSet 1 (sC (.int 1))) (mSeq (mFor (sIt (sVar 0)) (.tup [(.nm 2), (.nm 3)]) (mSet 1 (sOp2 pRep (.nm 1) (.ex (sOp2 pSub (.nm 3) (.nm 2)))))) (mRetV 1)))
noncomputable def F_room_of : Fn := ofBody 3 m_room_of
theorem S_room_of : FnScope N_room_of ["box"] (fnScope (top 14)) := C8.fnScope_by (by decide +kernel)
theorem ok_room_of (x : Tx P w K mg base tabs) : Cal P w K mg base 1 "room_of" (dSp ⟨P, w, K⟩ tabs 1 F_room_of) [] := by
  obtain ⟨f, fd, cdv, D⟩ := x.f_room_of
  refine cal_fn (N := N_room_of) (k := 0) D (fun _ _ _ _ _ _ us hl => match us, hl with | [_], _ => rfl) S_room_of rfl fun A outer s H E hr => ?_
  refine pss_cD ?_ ?_
  · exact ps_setD S_room_of.nd rfl (by first | exact Or.inl rfl | exact Or.inr rfl) hL0n pe_iD rfl (by first | exact Or.inl rfl | exact Or.inr rfl)
  refine pss_cD ?_ ?_
  · refine ps_forD PassesOwn.never rfl (pi_D (pe_varD (pv 0))) (pg_tp rfl rfl (pgs_c rfl (pg_nm S_room_of.nd rfl (by first | exact Or.inl rfl | exact Or.inr rfl) (by first | exact Or.inl rfl | exact Or.inr rfl) hL0n) (pgs_c rfl (pg_nm S_room_of.nd rfl (by first | exact Or.inl rfl | exact Or.inr rfl) (by first | exact Or.inl rfl | exact Or.inr rfl) hL0n) pgs_n)) rfl) ?_
    refine pss_1D ?_
    exact ps_setD S_room_of.nd rfl (by first | exact Or.inl rfl | exact Or.inr rfl) hL0n (pe_opD op_mulD (pv 1) (pe_opD op_subD (pv 3) (pv 2))) rfl (by first | exact Or.inl rfl | exact Or.inr rfl)
  refine pss_1D ?_
  exact ps_retVD (pv 1) rfl
def N_is_thing : List Str := ["value", "one", "other"]
noncomputable def m_is_thing : MS := (mSeq (mIf (bOr (bNot (bTru (.ex (sOp1 (pIsi "tuple") (.nm 0))))) (bOr (bNot (bVal (sCh pLe pLe (.ex (sC (.int 1))) (.ex (sN pLen2 [(.nm 0)])) (.ex (sC (.int 8)))))) (bNot (bTru (.ex (sAny true [1] ⟨(sIt (sVar 0)), (.nm 1), bYes⟩ [] (sCall F_is_box (aC (sVar 1) aN)))))))) (mRet (sC (.bool false))) mNext) (mSeq (mIf (bNot (bTru (.ex (sAny true [1] ⟨(sIt (sVar 0)), (.nm 1), bYes⟩ [] (sOp2 pEq (.ex (sN pLen2 [(.nm 1)])) (.ex (sN pLen2 [(.ex (sOp2 pIx2 (.nm 0) (.ex (sC (.int 0)))))]))))))) (mRet (sC (.bool false))) mNext) (mRet (sAny true [1, 2] ⟨(sZip (aC (sVar 0) (aC (sSl (.nm 0) (.ex (sC (.int 1))) .no) aN))), (.tup [(.nm 1), (.nm 2)]), bYes⟩ [] (sOp2 pLt (.nm 1) (.nm 2))))))
noncomputable def F_is_thing : Fn := ofBody 2 m_is_thing
theorem S_is_thing : FnScope N_is_thing ["value"] (fnScope (top 17)) := C8.fnScope_by (by decide +kernel)
theorem ok_is_thing (x : Tx P w K mg base tabs) : Cal P w K mg base 13 "is_thing" (dSp ⟨P, w, K⟩ tabs 1 F_is_thing) [] := by
  obtain ⟨f, fd, c, Pt, D, TB, hP⟩ := x.f_is_thing
  obtain ⟨_, x_MOST_BOXES⟩ := x.k_MOST_BOXES
  refine cal_fn (N := N_is_thing) (k := 12) D (fun _ _ _ _ _ _ us hl => match us, hl with | [_], _ => rfl) S_is_thing rfl fun A outer s H E hr => ?_
  refine pss_cD ?_ ?_
  · refine ps_ifD (PW.pt (pw_orD (pt_notD (pt_truD (pe_isiD (by first | rfl | decide) x.b_isinstance (by first | rfl | decide) x.b_tuple bt_tuple rfl (pv 0)))) (pw_orD (pt_notD (pt_chD (op_leD (Room.units hr)) (op_leD (Room.units hr)) (by with_unfolding_all rfl) pe_iD (pe_bD cr_len2 bt_len (by first | rfl | decide) x.b_len (POs.cons rfl (pv 0) POs.nil) rfl) (pe_kI x_MOST_BOXES (by first | rfl | decide)))) (pw_or1D (pt_notD (pt_truD (pe_allN (own := [("one", 1)]) (GcOk.mk rfl S_is_thing.nd ⟨_, hr⟩ (pi_D (pe_varD (pv 0))) (gblk_by (by kernel_rfl)) (fun _ _ _ _ _ _ _ => ⟨rfl, (pg_nm S_is_thing.nd rfl (by first | exact Or.inl rfl | exact Or.inr rfl) (by first | exact Or.inl rfl | exact Or.inr rfl) hL0n), pts_nD⟩) (fun _ _ _ _ _ _ _ => ClIns.nil) (fun _ _ _ _ _ _ _ => (pe_fnD (ok_is_box x) (room_g hr) (by decide) (by first | rfl | decide) (pa_cD (pe_varD (pv 1)) pa_nD rfl) rfl (len_C len_N) rfl)) (fun _ => rfl) (show List.Nodup [1] from by decide) (show ∀ i ∈ ([1] : List Nat), i ∈ ([1] : List Nat) from by decide) hL0m ⟨_, _, TB, rfl, hP⟩) (by first | rfl | decide) x.b_all))))))) ?_ ?_
    · refine pss_1D ?_
      exact ps_retD pe_bD'
    · exact pss_nD
  refine pss_cD ?_ ?_
  · refine ps_ifD (pt_notD (pt_truD (pe_allN (own := [("one", 1)]) (GcOk.mk rfl S_is_thing.nd ⟨_, hr⟩ (pi_D (pe_varD (pv 0))) (gblk_by (by kernel_rfl)) (fun _ _ _ _ _ _ _ => ⟨rfl, (pg_nm S_is_thing.nd rfl (by first | exact Or.inl rfl | exact Or.inr rfl) (by first | exact Or.inl rfl | exact Or.inr rfl) hL0n), pts_nD⟩) (fun _ _ _ _ _ _ _ => ClIns.nil) (fun _ _ _ _ _ _ _ => (pe_cmpD (op_eqDD (Room.units (room_g hr))) (nomark _) (pe_bD cr_len2 bt_len (by first | rfl | decide) x.b_len (POs.cons rfl (pv 1) POs.nil) rfl) (pe_bD cr_len2 bt_len (by first | rfl | decide) x.b_len (POs.cons rfl (pe_ixD (ix_D2 (Room.units (room_g hr))) (by intro _ _; rfl) (pv 0) pe_iD) POs.nil) rfl))) (fun _ => rfl) (show List.Nodup [1] from by decide) (show ∀ i ∈ ([1] : List Nat), i ∈ ([1] : List Nat) from by decide) hL0m ⟨_, _, TB, rfl, hP⟩) (by first | rfl | decide) x.b_all))) ?_ ?_
    · refine pss_1D ?_
      exact ps_retD pe_bD'
    · exact pss_nD
  refine pss_1D ?_
  exact ps_retD (pe_allN (own := [("one", 1), ("other", 2)]) (GcOk.mk rfl S_is_thing.nd ⟨_, hr⟩ (pi_zipD (by first | rfl | decide) x.b_zip (pa_cD (pe_varD (pv 0)) (pa_cD (pe_slD (pv 0) ⟨_, rfl, pe_iD⟩ rfl) pa_nD rfl) rfl) rfl rfl) (gblk_by (by kernel_rfl)) (fun _ _ _ _ _ _ _ => ⟨rfl, (pg_tp rfl rfl (pgs_c rfl (pg_nm S_is_thing.nd rfl (by first | exact Or.inl rfl | exact Or.inr rfl) (by first | exact Or.inl rfl | exact Or.inr rfl) hL0n) (pgs_c rfl (pg_nm S_is_thing.nd rfl (by first | exact Or.inl rfl | exact Or.inr rfl) (by first | exact Or.inl rfl | exact Or.inr rfl) hL0n) pgs_n)) rfl), pts_nD⟩) (fun _ _ _ _ _ _ _ => ClIns.nil) (fun _ _ _ _ _ _ _ => (pe_cmpD (op_ltD (Room.units (room_g hr))) (nomark _) (pv 1) (pv 2))) (fun _ => rfl) (show List.Nodup [1, 2] from by decide) (show ∀ i ∈ ([1, 2] : List Nat), i ∈ ([1, 2] : List Nat) from by decide) hL0m ⟨_, _, TB, rfl, hP⟩) (by first | rfl | decide) x.b_all)
def N_dimension : List Str := ["thing"]
noncomputable def m_dimension : MS := (mRet (sN pLen2 [(.ex (sOp2 pIx2 (.nm 0) (.ex (sC (.int 0)))))]))
noncomputable def F_dimension : Fn := ofBody 0 m_dimension
theorem S_dimension : FnScope N_dimension ["thing"] (fnScope (top 18)) := C8.fnScope_by (by decide +kernel)
theorem ok_dimension (x : Tx P w K mg base tabs) : Cal P w K mg base 1 "dimension" (dSp ⟨P, w, K⟩ tabs 1 F_dimension) [] := by
  obtain ⟨f, fd, cdv, D⟩ := x.f_dimension
  refine cal_fn (N := N_dimension) (k := 0) D (fun _ _ _ _ _ _ us hl => match us, hl with | [_], _ => rfl) S_dimension rfl fun A outer s H E hr => ?_
  refine pss_1D ?_
  exact ps_retD (pe_bD cr_len2 bt_len (by first | rfl | decide) x.b_len (POs.cons rfl (pe_ixD (ix_D2 (Room.units hr)) (by intro _ _; rfl) (pv 0) pe_iD) POs.nil) rfl)
def N_at : List Str := ["thing", "place", "box"]
noncomputable def m_at : MS := (mRet (sN pTuple [(.ex (sListComp [2] ⟨(sIt (sVar 0)), (.nm 2), bYes⟩ [] (sCall F_shifted (aC (sVar 2) (aC (sVar 1) aN)))))]))
noncomputable def F_at : Fn := ofBody 1 m_at
theorem S_at : FnScope N_at ["thing", "place"] (fnScope (top 19)) := C8.fnScope_by (by decide +kernel)
theorem ok_at (x : Tx P w K mg base tabs) : Cal P w K mg base 2 "at" (dSp ⟨P, w, K⟩ tabs 2 F_at) [] := by
  obtain ⟨f, fd, cdv, D⟩ := x.f_at
  refine cal_fn (N := N_at) (k := 1) D (fun _ _ _ _ _ _ us hl => match us, hl with | [_, _], _ => rfl) S_at rfl fun A outer s H E hr => ?_
  refine pss_1D ?_
  exact ps_retD (pe_tD cr_tuple bt_tuple (by first | rfl | decide) x.b_tuple (POs.cons rfl (pe_lcN (own := [("box", 2)]) (LcOk.mk rfl S_at.nd (pi_D (pe_varD (pv 0))) (blk_by (by kernel_rfl)) (fun _ _ _ _ _ => ⟨rfl, (pg_nm S_at.nd rfl (by first | exact Or.inl rfl | exact Or.inr rfl) (by first | exact Or.inl rfl | exact Or.inr rfl) hL0n), pts_nD⟩) (fun _ _ _ _ _ => ClIns.nil) (fun _ _ _ _ _ => (pe_fnD (ok_shifted x) hr (by decide) (by first | rfl | decide) (pa_cD (pe_varD (pv 2)) (pa_cD (pe_varD (pv 1)) pa_nD rfl) rfl) rfl (len_C (len_C len_N)) rfl)) (fun _ => rfl) (show List.Nodup [2] from by decide) (show ∀ i ∈ ([2] : List Nat), i ∈ ([2] : List Nat) from by decide) hL0m)) POs.nil) rfl)
def N_clashes : List Str := ["one", "other", "first", "second"]
noncomputable def m_clashes : MS := (mRet (sAny false [2, 3] ⟨(sIt (sVar 0)), (.nm 2), bYes⟩ [⟨(sIt (sVar 1)), (.nm 3), bYes⟩] (sCall F_clash (aC (sVar 2) (aC (sVar 3) aN)))))
noncomputable def F_clashes : Fn := ofBody 2 m_clashes
theorem S_clashes : FnScope N_clashes ["one", "other"] (fnScope (top 20)) := C8.fnScope_by (by decide +kernel)
theorem ok_clashes (x : Tx P w K mg base tabs) : Cal P w K mg base 8 "clashes" (dSp ⟨P, w, K⟩ tabs 2 F_clashes) [] := by
  obtain ⟨f, fd, c, Pt, D, TB, hP⟩ := x.f_clashes
  refine cal_fn (N := N_clashes) (k := 7) D (fun _ _ _ _ _ _ us hl => match us, hl with | [_, _], _ => rfl) S_clashes rfl fun A outer s H E hr => ?_
  refine pss_1D ?_
  exact ps_retD (pe_anyN (own := [("first", 2), ("second", 3)]) (GcOk.mk rfl S_clashes.nd ⟨_, hr⟩ (pi_D (pe_varD (pv 0))) (gblk_by (by kernel_rfl)) (fun _ _ _ _ _ _ _ => ⟨rfl, (pg_nm S_clashes.nd rfl (by first | exact Or.inl rfl | exact Or.inr rfl) (by first | exact Or.inl rfl | exact Or.inr rfl) hL0n), pts_nD⟩) (fun _ _ _ _ _ _ _ => (ClIns.cons ⟨⟨rfl, (pg_nm S_clashes.nd rfl (by first | exact Or.inl rfl | exact Or.inr rfl) (by first | exact Or.inl rfl | exact Or.inr rfl) hL0n), pts_nD⟩, (pi_D (pe_varD (pv 1))), fun _ => rfl⟩ ClIns.nil)) (fun _ _ _ _ _ _ _ => (pe_fnD (ok_clash x) (room_g hr) (by decide) (by first | rfl | decide) (pa_cD (pe_varD (pv 2)) (pa_cD (pe_varD (pv 3)) pa_nD rfl) rfl) rfl (len_C (len_C len_N)) rfl)) (fun _ => rfl) (show List.Nodup [2, 3] from by decide) (show ∀ i ∈ ([2, 3] : List Nat), i ∈ ([2, 3] : List Nat) from by decide) hL0m ⟨_, _, TB, rfl, hP⟩) (by first | rfl | decide) x.b_any)
def N_without : List Str := ["box", "other", "middle", "found", "left", "axis", "low", "high"]
noncomputable def m_without : MS := (mSeq (mSet 2 (sCall F_shared (aC (sVar 0) (aC (sVar 1) aN)))) (mSeq (mIf (bVal (sOp2 pIs (.nm 2) (.ex (sC .none)))) (mRet (sLst (aC (sVar 0) aN))) mNext) (mSeq (mPar2 3 4 (sLst aN) (sVar 0)) (mSeq (mFor (sRange1 (aC (sN pLen2 [(.nm 0)]) aN)) (.nm 5) (mSeq (mFor (sIt (sTup (aC (sTup (aC (sOp2 pIx2 (.ex (sOp2 pIx2 (.nm 4) (.nm 5))) (.ex (sC (.int 0)))) (aC (sOp2 pIx2 (.ex (sOp2 pIx2 (.nm 2) (.nm 5))) (.ex (sC (.int 0)))) aN))) (aC (sTup (aC (sOp2 pIx2 (.ex (sOp2 pIx2 (.nm 2) (.nm 5))) (.ex (sC (.int 1)))) (aC (sOp2 pIx2 (.ex (sOp2 pIx2 (.nm 4) (.nm 5))) (.ex (sC (.int 1)))) aN))) aN)))) (.tup [(.nm 6), (.nm 7)]) (mIf (bVal (sOp2 pLt (.nm 6) (.nm 7))) (mDrop (sLM opAppend 3 (aC (sTup (aS (sSl (.nm 4) .no (.ex (sVar 5))) (aC (sTup (aC (sVar 6) (aC (sVar 7) aN))) (aS (sSl (.nm 4) (.ex (sOp2 pAdd (.nm 5) (.ex (sC (.int 1))))) .no) aN)))) aN))) mNext)) (mSet 4 (sTup (aS (sSl (.nm 4) .no (.ex (sVar 5))) (aC (sOp2 pIx2 (.nm 2) (.nm 5)) (aS (sSl (.nm 4) (.ex (sOp2 pAdd (.nm 5) (.ex (sC (.int 1))))) .no) aN))))))) (mRetV 3)))))
noncomputable def F_without : Fn := ofBody 6 m_without
theorem S_without : FnScope N_without ["box", "other"] (fnScope (top 22)) := C8.fnScope_by (by decide +kernel)
theorem ok_without (x : Tx P w K mg base tabs) : Cal P w K mg base 6 "without" (dSp ⟨P, w, K⟩ tabs 2 F_without) [] := by
  obtain ⟨f, fd, cdv, D⟩ := x.f_without
  refine cal_fn (N := N_without) (k := 5) D (fun _ _ _ _ _ _ us hl => match us, hl with | [_, _], _ => rfl) S_without rfl fun A outer s H E hr => ?_
  refine pss_cD ?_ ?_
  · exact ps_setD S_without.nd rfl (by first | exact Or.inl rfl | exact Or.inr rfl) hL0n (pe_fnD (ok_shared x) hr (by decide) (by first | rfl | decide) (pa_cD (pe_varD (pv 0)) (pa_cD (pe_varD (pv 1)) pa_nD rfl) rfl) rfl (len_C (len_C len_N)) rfl) rfl (by first | exact Or.inl rfl | exact Or.inr rfl)
  refine pss_cD ?_ ?_
  · refine ps_ifD (pt_cmpD op_isD (nomark _) (pv 2) pe_nD) ?_ ?_
    · refine pss_1D ?_
      exact ps_retD (pe_lstD (pa_cD (pe_varD (pv 0)) pa_nD rfl))
    · exact pss_nD
  refine pss_cD ?_ ?_
  · exact ps_par2D rfl S_without.nd rfl rfl (by decide) rfl rfl hL0n hL0n (pe_lstD pa_nD) (pe_varD (pv 0)) rfl rfl rfl rfl
  refine pss_cD ?_ ?_
  · refine ps_forD PassesOwn.never rfl (pi_range1D (by first | rfl | decide) x.b_range (pa_cD (pe_bD cr_len2 bt_len (by first | rfl | decide) x.b_len (POs.cons rfl (pv 0) POs.nil) rfl) pa_nD rfl) rfl) (pg_nm S_without.nd rfl (by first | exact Or.inl rfl | exact Or.inr rfl) (by first | exact Or.inl rfl | exact Or.inr rfl) hL0n) ?_
    refine pss_cD ?_ ?_
    · refine ps_forD PassesOwn.never rfl (pi_D (pe_tupD (pa_cD (pe_tupD (pa_cD (pe_ixD (ix_D2 (Room.units hr)) (by intro _ _; rfl) (pe_ixD (ix_D2 (Room.units hr)) (by intro _ _; rfl) (pv 4) (pv 5)) pe_iD) (pa_cD (pe_ixD (ix_D2 (Room.units hr)) (by intro _ _; rfl) (pe_ixD (ix_D2 (Room.units hr)) (by intro _ _; rfl) (pv 2) (pv 5)) pe_iD) pa_nD rfl) rfl)) (pa_cD (pe_tupD (pa_cD (pe_ixD (ix_D2 (Room.units hr)) (by intro _ _; rfl) (pe_ixD (ix_D2 (Room.units hr)) (by intro _ _; rfl) (pv 2) (pv 5)) pe_iD) (pa_cD (pe_ixD (ix_D2 (Room.units hr)) (by intro _ _; rfl) (pe_ixD (ix_D2 (Room.units hr)) (by intro _ _; rfl) (pv 4) (pv 5)) pe_iD) pa_nD rfl) rfl)) pa_nD rfl) rfl))) (pg_tp rfl rfl (pgs_c rfl (pg_nm S_without.nd rfl (by first | exact Or.inl rfl | exact Or.inr rfl) (by first | exact Or.inl rfl | exact Or.inr rfl) hL0n) (pgs_c rfl (pg_nm S_without.nd rfl (by first | exact Or.inl rfl | exact Or.inr rfl) (by first | exact Or.inl rfl | exact Or.inr rfl) hL0n) pgs_n)) rfl) ?_
      refine pss_1D ?_
      refine ps_ifD (pt_cmpD (op_ltD (Room.units hr)) (nomark _) (pv 6) (pv 7)) ?_ ?_
      · refine pss_1D ?_
        exact ps_dropD (pe_appendD (pv 3) (pa_cD (pe_tupD (pa_sD (pe_slD (pv 4) rfl ⟨_, rfl, (pe_varD (pv 5))⟩) (pa_cD (pe_tupD (pa_cD (pe_varD (pv 6)) (pa_cD (pe_varD (pv 7)) pa_nD rfl) rfl)) (pa_sD (pe_slD (pv 4) ⟨_, rfl, (pe_opD op_addD (pv 5) pe_iD)⟩ rfl) pa_nD) rfl))) pa_nD rfl) rfl)
      · exact pss_nD
    refine pss_1D ?_
    exact ps_setD S_without.nd rfl (by first | exact Or.inl rfl | exact Or.inr rfl) hL0n (pe_tupD (pa_sD (pe_slD (pv 4) rfl ⟨_, rfl, (pe_varD (pv 5))⟩) (pa_cD (pe_ixD (ix_D2 (Room.units hr)) (by intro _ _; rfl) (pv 2) (pv 5)) (pa_sD (pe_slD (pv 4) ⟨_, rfl, (pe_opD op_addD (pv 5) pe_iD)⟩ rfl) pa_nD) rfl))) rfl (by first | exact Or.inl rfl | exact Or.inr rfl)
  refine pss_1D ?_
  exact ps_retVD (pv 3) rfl
def N_apart : List Str := ["boxes", "found", "box", "pieces", "other", "piece", "part"]
noncomputable def m_apart : MS := (mSeq (mSet 1 (sLst aN)) (mSeq (mFor (sIt (sVar 0)) (.nm 2) (mSeq (mSet 3 (sLst (aC (sVar 2) aN))) (mSeq (mForO 1 (.nm 4) (mSet 3 (sListComp [5, 6] ⟨(sIt (sVar 3)), (.nm 5), bYes⟩ [⟨(sIt (sCall F_without (aC (sVar 5) (aC (sVar 4) aN)))), (.nm 6), bYes⟩] (sVar 6)))) (mDrop (sLM opExtend 1 (aC (sVar 3) aN)))))) (mRetV 1)))
noncomputable def F_apart : Fn := ofBody 6 m_apart
theorem S_apart : FnScope N_apart ["boxes"] (fnScope (top 21)) := C8.fnScope_by (by decide +kernel)
theorem ok_apart (x : Tx P w K mg base tabs) : Cal P w K mg base 7 "apart" (dSp ⟨P, w, K⟩ tabs 1 F_apart) [] := by
  obtain ⟨f, fd, cdv, D⟩ := x.f_apart
  refine cal_fn (N := N_apart) (k := 6) D (fun _ _ _ _ _ _ us hl => match us, hl with | [_], _ => rfl) S_apart rfl fun A outer s H E hr => ?_
  refine pss_cD ?_ ?_
  · exact ps_setD S_apart.nd rfl (by first | exact Or.inl rfl | exact Or.inr rfl) hL0n (pe_lstD pa_nD) rfl (by first | exact Or.inl rfl | exact Or.inr rfl)
  refine pss_cD ?_ ?_
  · refine ps_forD PassesOwn.never rfl (pi_D (pe_varD (pv 0))) (pg_nm S_apart.nd rfl (by first | exact Or.inl rfl | exact Or.inr rfl) (by first | exact Or.inl rfl | exact Or.inr rfl) hL0n) ?_
    refine pss_cD ?_ ?_
    · exact ps_setD S_apart.nd rfl (by first | exact Or.inl rfl | exact Or.inr rfl) hL0n (pe_lstD (pa_cD (pe_varD (pv 2)) pa_nD rfl)) rfl (by first | exact Or.inl rfl | exact Or.inr rfl)
    refine pss_cD ?_ ?_
    · refine ps_forOD PassesOwn.never rfl (pv 1) (by decide) (fun _ => (pg_nm S_apart.nd rfl (by first | exact Or.inl rfl | exact Or.inr rfl) (by first | exact Or.inl rfl | exact Or.inr rfl) (hLcn (by decide) hL0n))) (fun _ => ?_)
      refine pss_1D ?_
      first | exact ps_setD' rfl (hLcn (by decide) hL0n) (ps_lcN (own := [("piece", 5), ("part", 6)]) (LcOk.mk rfl S_apart.nd (pi_D (pe_varD (pv 3))) (blk_by (by kernel_rfl)) (fun _ _ _ _ _ => ⟨rfl, (pg_nm S_apart.nd rfl (by first | exact Or.inl rfl | exact Or.inr rfl) (by first | exact Or.inl rfl | exact Or.inr rfl) (hLcn (by decide) hL0n)), pts_nD⟩) (fun _ _ _ _ _ => (ClIns.cons ⟨⟨rfl, (pg_nm S_apart.nd rfl (by first | exact Or.inl rfl | exact Or.inr rfl) (by first | exact Or.inl rfl | exact Or.inr rfl) (hLcn (by decide) hL0n)), pts_nD⟩, (pi_D (pe_fnD (ok_without x) hr (by decide) (by first | rfl | decide) (pa_cD (pe_varD (pv 5)) (pa_cD (pe_varD (pv 4)) pa_nD rfl) rfl) rfl (len_C (len_C len_N)) rfl)), fun _ => rfl⟩ ClIns.nil)) (fun _ _ _ _ _ => (pe_varD (pv 6))) (fun _ => rfl) (show List.Nodup [5, 6] from by decide) (show ∀ i ∈ ([5, 6] : List Nat), i ∈ ([5, 6] : List Nat) from by decide) (hLcm (by decide) hL0m)) rfl rfl rfl) | exact ps_setD S_apart.nd rfl (by first | exact Or.inl rfl | exact Or.inr rfl) (hLcn (by decide) hL0n) (pe_lcN (own := [("piece", 5), ("part", 6)]) (LcOk.mk rfl S_apart.nd (pi_D (pe_varD (pv 3))) (blk_by (by kernel_rfl)) (fun _ _ _ _ _ => ⟨rfl, (pg_nm S_apart.nd rfl (by first | exact Or.inl rfl | exact Or.inr rfl) (by first | exact Or.inl rfl | exact Or.inr rfl) (hLcn (by decide) hL0n)), pts_nD⟩) (fun _ _ _ _ _ => (ClIns.cons ⟨⟨rfl, (pg_nm S_apart.nd rfl (by first | exact Or.inl rfl | exact Or.inr rfl) (by first | exact Or.inl rfl | exact Or.inr rfl) (hLcn (by decide) hL0n)), pts_nD⟩, (pi_D (pe_fnD (ok_without x) hr (by decide) (by first | rfl | decide) (pa_cD (pe_varD (pv 5)) (pa_cD (pe_varD (pv 4)) pa_nD rfl) rfl) rfl (len_C (len_C len_N)) rfl)), fun _ => rfl⟩ ClIns.nil)) (fun _ _ _ _ _ => (pe_varD (pv 6))) (fun _ => rfl) (show List.Nodup [5, 6] from by decide) (show ∀ i ∈ ([5, 6] : List Nat), i ∈ ([5, 6] : List Nat) from by decide) (hLcm (by decide) hL0m))) rfl (by first | exact Or.inl rfl | exact Or.inr rfl)
    refine pss_1D ?_
    exact ps_dropD (pe_extendD (pv 1) (pa_cD (pe_varD (pv 3)) pa_nD rfl) rfl)
  refine pss_1D ?_
  exact ps_retVD (pv 1) rfl
def N_volume : List Str := ["boxes", "box"]
noncomputable def m_volume : MS := (mRet (sN pSum [(.ex (sListComp [1] ⟨(sIt (sCall F_apart (aC (sVar 0) aN))), (.nm 1), bYes⟩ [] (sCall F_room_of (aC (sVar 1) aN))))]))
noncomputable def F_volume : Fn := ofBody 1 m_volume
theorem S_volume : FnScope N_volume ["boxes"] (fnScope (top 23)) := C8.fnScope_by (by decide +kernel)
theorem ok_volume (x : Tx P w K mg base tabs) : Cal P w K mg base 8 "volume" (dSp ⟨P, w, K⟩ tabs 1 F_volume) [] := by
  obtain ⟨f, fd, cdv, D⟩ := x.f_volume
  refine cal_fn (N := N_volume) (k := 7) D (fun _ _ _ _ _ _ us hl => match us, hl with | [_], _ => rfl) S_volume rfl fun A outer s H E hr => ?_
  refine pss_1D ?_
  exact ps_retD (pe_bD (cr_sumD rfl) bt_sum (by first | rfl | decide) x.b_sum (POs.cons rfl (pe_lcN (own := [("box", 1)]) (LcOk.mk rfl S_volume.nd (pi_D (pe_fnD (ok_apart x) hr (by decide) (by first | rfl | decide) (pa_cD (pe_varD (pv 0)) pa_nD rfl) rfl (len_C len_N) rfl)) (blk_by (by kernel_rfl)) (fun _ _ _ _ _ => ⟨rfl, (pg_nm S_volume.nd rfl (by first | exact Or.inl rfl | exact Or.inr rfl) (by first | exact Or.inl rfl | exact Or.inr rfl) hL0n), pts_nD⟩) (fun _ _ _ _ _ => ClIns.nil) (fun _ _ _ _ _ => (pe_fnD (ok_room_of x) hr (by decide) (by first | rfl | decide) (pa_cD (pe_varD (pv 1)) pa_nD rfl) rfl (len_C len_N) rfl)) (fun _ => rfl) (show List.Nodup [1] from by decide) (show ∀ i ∈ ([1] : List Nat), i ∈ ([1] : List Nat) from by decide) hL0m)) POs.nil) rfl)
def N_same_room : List Str := ["one", "other", "both"]
noncomputable def m_same_room : MS := (mSeq (mSet 2 (sCall F_volume (aC (sLst (aS (sVar 0) (aS (sVar 1) aN))) aN))) (mRet (sAnd (sOp2 pEq (.ex (sCall F_volume (aC (sVar 0) aN))) (.nm 2)) (sOp2 pEq (.ex (sCall F_volume (aC (sVar 1) aN))) (.nm 2)))))
noncomputable def F_same_room : Fn := ofBody 1 m_same_room
theorem S_same_room : FnScope N_same_room ["one", "other"] (fnScope (top 24)) := C8.fnScope_by (by decide +kernel)
theorem ok_same_room (x : Tx P w K mg base tabs) : Cal P w K mg base 9 "same_room" (dSp ⟨P, w, K⟩ tabs 2 F_same_room) [] := by
  obtain ⟨f, fd, cdv, D⟩ := x.f_same_room
  refine cal_fn (N := N_same_room) (k := 8) D (fun _ _ _ _ _ _ us hl => match us, hl with | [_, _], _ => rfl) S_same_room rfl fun A outer s H E hr => ?_
  refine pss_cD ?_ ?_
  · exact ps_setD S_same_room.nd rfl (by first | exact Or.inl rfl | exact Or.inr rfl) hL0n (pe_fnD (ok_volume x) hr (by decide) (by first | rfl | decide) (pa_cD (pe_lstD (pa_sD (pe_varD (pv 0)) (pa_sD (pe_varD (pv 1)) pa_nD))) pa_nD rfl) rfl (len_C len_N) rfl) rfl (by first | exact Or.inl rfl | exact Or.inr rfl)
  refine pss_1D ?_
  exact ps_retD (pe_andD (pe_cmpD (op_eqDD (Room.units hr)) (nomark _) (pe_fnD (ok_volume x) hr (by decide) (by first | rfl | decide) (pa_cD (pe_varD (pv 0)) pa_nD rfl) rfl (len_C len_N) rfl) (pv 2)) (pe_one (pe_cmpD (op_eqDD (Room.units hr)) (nomark _) (pe_fnD (ok_volume x) hr (by decide) (by first | rfl | decide) (pa_cD (pe_varD (pv 1)) pa_nD rfl) rfl (len_C len_N) rfl) (pv 2))))
def N_hull : List Str := ["boxes", "found", "axis", "box"]
noncomputable def m_hull : MS := (mSeq (mSet 1 (sLst aN)) (mSeq (mFor (sRange1 (aC (sN pLen2 [(.ex (sOp2 pIx2 (.nm 0) (.ex (sC (.int 0)))))]) aN)) (.nm 2) (mDrop (sLM opAppend 1 (aC (sTup (aC (sN pMin [(.ex (sListComp [3] ⟨(sIt (sVar 0)), (.nm 3), bYes⟩ [] (sOp2 pIx2 (.ex (sOp2 pIx2 (.nm 3) (.nm 2))) (.ex (sC (.int 0))))))]) (aC (sN pMax [(.ex (sListComp [3] ⟨(sIt (sVar 0)), (.nm 3), bYes⟩ [] (sOp2 pIx2 (.ex (sOp2 pIx2 (.nm 3) (.nm 2))) (.ex (sC (.int 1))))))]) aN))) aN)))) (mRet (sN pTuple [(.nm 1)]))))
noncomputable def F_hull : Fn := ofBody 3 m_hull
theorem S_hull : FnScope N_hull ["boxes"] (fnScope (top 25)) := C8.fnScope_by (by decide +kernel)
theorem ok_hull (x : Tx P w K mg base tabs) : Cal P w K mg base 1 "hull" (dSp ⟨P, w, K⟩ tabs 1 F_hull) [] := by
  obtain ⟨f, fd, cdv, D⟩ := x.f_hull
  refine cal_fn (N := N_hull) (k := 0) D (fun _ _ _ _ _ _ us hl => match us, hl with | [_], _ => rfl) S_hull rfl fun A outer s H E hr => ?_
  refine pss_cD ?_ ?_
  · exact ps_setD S_hull.nd rfl (by first | exact Or.inl rfl | exact Or.inr rfl) hL0n (pe_lstD pa_nD) rfl (by first | exact Or.inl rfl | exact Or.inr rfl)
  refine pss_cD ?_ ?_
  · refine ps_forD PassesOwn.never rfl (pi_range1D (by first | rfl | decide) x.b_range (pa_cD (pe_bD cr_len2 bt_len (by first | rfl | decide) x.b_len (POs.cons rfl (pe_ixD (ix_D2 (Room.units hr)) (by intro _ _; rfl) (pv 0) pe_iD) POs.nil) rfl) pa_nD rfl) rfl) (pg_nm S_hull.nd rfl (by first | exact Or.inl rfl | exact Or.inr rfl) (by first | exact Or.inl rfl | exact Or.inr rfl) hL0n) ?_
    refine pss_1D ?_
    exact ps_dropD (pe_appendD (pv 1) (pa_cD (pe_tupD (pa_cD (pe_bD (cr_minD rfl) bt_min (by first | rfl | decide) x.b_min (POs.cons rfl (pe_lcN (own := [("box", 3)]) (LcOk.mk rfl S_hull.nd (pi_D (pe_varD (pv 0))) (blk_by (by kernel_rfl)) (fun _ _ _ _ _ => ⟨rfl, (pg_nm S_hull.nd rfl (by first | exact Or.inl rfl | exact Or.inr rfl) (by first | exact Or.inl rfl | exact Or.inr rfl) hL0n), pts_nD⟩) (fun _ _ _ _ _ => ClIns.nil) (fun _ _ _ _ _ => (pe_ixD (ix_D2 (Room.units hr)) (by intro _ _; rfl) (pe_ixD (ix_D2 (Room.units hr)) (by intro _ _; rfl) (pv 3) (pv 2)) pe_iD)) (fun _ => rfl) (show List.Nodup [3] from by decide) (show ∀ i ∈ ([3] : List Nat), i ∈ ([3] : List Nat) from by decide) hL0m)) POs.nil) rfl) (pa_cD (pe_bD (cr_maxD rfl) bt_max (by first | rfl | decide) x.b_max (POs.cons rfl (pe_lcN (own := [("box", 3)]) (LcOk.mk rfl S_hull.nd (pi_D (pe_varD (pv 0))) (blk_by (by kernel_rfl)) (fun _ _ _ _ _ => ⟨rfl, (pg_nm S_hull.nd rfl (by first | exact Or.inl rfl | exact Or.inr rfl) (by first | exact Or.inl rfl | exact Or.inr rfl) hL0n), pts_nD⟩) (fun _ _ _ _ _ => ClIns.nil) (fun _ _ _ _ _ => (pe_ixD (ix_D2 (Room.units hr)) (by intro _ _; rfl) (pe_ixD (ix_D2 (Room.units hr)) (by intro _ _; rfl) (pv 3) (pv 2)) pe_iD)) (fun _ => rfl) (show List.Nodup [3] from by decide) (show ∀ i ∈ ([3] : List Nat), i ∈ ([3] : List Nat) from by decide) hL0m)) POs.nil) rfl) pa_nD rfl) rfl)) pa_nD rfl) rfl)
  refine pss_1D ?_
  exact ps_retD (pe_tD cr_tuple bt_tuple (by first | rfl | decide) x.b_tuple (POs.cons rfl (pv 1) POs.nil) rfl)
def N__law_draws : List Str := ["script", "draws", "cell", "number", "first", "k", "seed"]
noncomputable def m__law_draws : MS := (mSeq (mSet 1 (sLst aN)) (mSeq (mFor (sIt (sVar 0)) (.nm 2) (mSeq (mSet 3 (sN pAbs [(.nm 2)])) (mSeq (mIf (bVal (sOp2 pLt (.nm 3) (.ex (sOp2 pPow (.ex (sC (.int 10))) (.ex (sC (.int 18))))))) (mSeq (mSet 4 (sOp2 pMod (.ex (sN pInt [(.ex (sOp2 pAdd (.ex (sOp2 pRep (.nm 3) (.ex (sC (.int 48271))))) (.ex (sC (.int 11)))))])) (.ex (sC (.int 2147483647))))) (mSeq (mDrop (sLM opAppend 1 (aC (sOp2 pMod (.ex (sN pInt [(.ex (sOp2 pAdd (.ex (sOp2 pRep (.nm 4) (.ex (sC (.int 69621))))) (.nm 3)))])) (.ex (sC (.int 2147483629)))) aN))) (mSeq (mDrop (sLM opAppend 1 (aC (sOp2 pMod (.ex (sN pInt [(.ex (sOp2 pAdd (.nm 4) (.ex (sOp2 pDiv (.nm 3) (.ex (sC (.int 7)))))))])) (.ex (sC (.int 1000003)))) aN))) (mSet 3 (sC (.int 0)))))) mNext) (mFor (sRange1 (aC (sC (.int 60)) aN)) (.nm 5) (mIf (bVal (sOp2 pGt (.nm 3) (.ex (sC (.int 0))))) (mSeq (mDrop (sLM opAppend 1 (aC (sOp2 pMod (.ex (sN pInt [(.nm 3)])) (.ex (sC (.int 997)))) aN))) (mSet 3 (sOp2 pDiv (.nm 3) (.ex (sC (.int 997)))))) mNext))))) (mSeq (mSet 6 (sC (.int 1))) (mSeq (mIf (bVal (sOp2 pGt (.ex (sN pLen2 [(.nm 0)])) (.ex (sC (.int 0))))) (mSet 6 (sOp2 pAdd (.ex (sC (.int 1))) (.ex (sN pAbs [(.ex (sOp2 pIx2 (.nm 0) (.ex (sC (.int 0)))))])))) mNext) (mSeq (mFor (sRange1 (aC (sC (.int 900)) aN)) (.nm 5) (mSeq (mSet 6 (sOp2 pMod (.ex (sN pInt [(.ex (sOp2 pAdd (.ex (sOp2 pRep (.nm 6) (.ex (sC (.int 48271))))) (.ex (sC (.int 69621)))))])) (.ex (sC (.int 2147483647))))) (mDrop (sLM opAppend 1 (aC (sOp2 pDiv (.nm 6) (.ex (sC (.int 5)))) aN))))) (mRet (sOp1 pRevL (.nm 1))))))))
noncomputable def F__law_draws : Fn := ofBody 6 m__law_draws
theorem S__law_draws : FnScope N__law_draws ["script"] (fnScope (top 27)) := C8.fnScope_by (by decide +kernel)
theorem ok__law_draws (x : Tx P w K mg base tabs) : Cal P w K mg base 1 "_law_draws" (dSp ⟨P, w, K⟩ tabs 1 F__law_draws) [] := by
  obtain ⟨f, fd, cdv, D⟩ := x.f__law_draws
  refine cal_fn (N := N__law_draws) (k := 0) D (fun _ _ _ _ _ _ us hl => match us, hl with | [_], _ => rfl) S__law_draws rfl fun A outer s H E hr => ?_
  refine pss_cD ?_ ?_
  · exact ps_setD S__law_draws.nd rfl (by first | exact Or.inl rfl | exact Or.inr rfl) hL0n (pe_lstD pa_nD) rfl (by first | exact Or.inl rfl | exact Or.inr rfl)
  refine pss_cD ?_ ?_
  · refine ps_forD PassesOwn.never rfl (pi_D (pe_varD (pv 0))) (pg_nm S__law_draws.nd rfl (by first | exact Or.inl rfl | exact Or.inr rfl) (by first | exact Or.inl rfl | exact Or.inr rfl) hL0n) ?_
    refine pss_cD ?_ ?_
    · exact ps_setD S__law_draws.nd rfl (by first | exact Or.inl rfl | exact Or.inr rfl) hL0n (pe_bD cr_abs bt_abs (by first | rfl | decide) x.b_abs (POs.cons rfl (pv 2) POs.nil) rfl) rfl (by first | exact Or.inl rfl | exact Or.inr rfl)
    refine pss_cD ?_ ?_
    · refine ps_ifD (pt_cmpD (op_ltD (Room.units hr)) (nomark _) (pv 3) (pe_opD op_powD pe_iD pe_iD)) ?_ ?_
      · refine pss_cD ?_ ?_
        · exact ps_setD S__law_draws.nd rfl (by first | exact Or.inl rfl | exact Or.inr rfl) hL0n (pe_opD op_modD (pe_tD cr_int bt_int (by first | rfl | decide) x.b_int (POs.cons rfl (pe_opD op_addD (pe_opD op_mulD (pv 3) pe_iD) pe_iD) POs.nil) rfl) pe_iD) rfl (by first | exact Or.inl rfl | exact Or.inr rfl)
        refine pss_cD ?_ ?_
        · exact ps_dropD (pe_appendD (pv 1) (pa_cD (pe_opD op_modD (pe_tD cr_int bt_int (by first | rfl | decide) x.b_int (POs.cons rfl (pe_opD op_addD (pe_opD op_mulD (pv 4) pe_iD) (pv 3)) POs.nil) rfl) pe_iD) pa_nD rfl) rfl)
        refine pss_cD ?_ ?_
        · exact ps_dropD (pe_appendD (pv 1) (pa_cD (pe_opD op_modD (pe_tD cr_int bt_int (by first | rfl | decide) x.b_int (POs.cons rfl (pe_opD op_addD (pv 4) (pe_opD op_divD (pv 3) pe_iD)) POs.nil) rfl) pe_iD) pa_nD rfl) rfl)
        refine pss_1D ?_
        exact ps_setD S__law_draws.nd rfl (by first | exact Or.inl rfl | exact Or.inr rfl) hL0n pe_iD rfl (by first | exact Or.inl rfl | exact Or.inr rfl)
      · exact pss_nD
    refine pss_1D ?_
    refine ps_forD PassesOwn.never rfl (pi_range1D (by first | rfl | decide) x.b_range (pa_cD pe_iD pa_nD rfl) rfl) (pg_nm S__law_draws.nd rfl (by first | exact Or.inl rfl | exact Or.inr rfl) (by first | exact Or.inl rfl | exact Or.inr rfl) hL0n) ?_
    refine pss_1D ?_
    refine ps_ifD (pt_cmpD (op_gtD (Room.units hr)) (nomark _) (pv 3) pe_iD) ?_ ?_
    · refine pss_cD ?_ ?_
      · exact ps_dropD (pe_appendD (pv 1) (pa_cD (pe_opD op_modD (pe_tD cr_int bt_int (by first | rfl | decide) x.b_int (POs.cons rfl (pv 3) POs.nil) rfl) pe_iD) pa_nD rfl) rfl)
      refine pss_1D ?_
      exact ps_setD S__law_draws.nd rfl (by first | exact Or.inl rfl | exact Or.inr rfl) hL0n (pe_opD op_divD (pv 3) pe_iD) rfl (by first | exact Or.inl rfl | exact Or.inr rfl)
    · exact pss_nD
  refine pss_cD ?_ ?_
  · exact ps_setD S__law_draws.nd rfl (by first | exact Or.inl rfl | exact Or.inr rfl) hL0n pe_iD rfl (by first | exact Or.inl rfl | exact Or.inr rfl)
  refine pss_cD ?_ ?_
  · refine ps_ifD (pt_cmpD (op_gtD (Room.units hr)) (nomark _) (pe_bD cr_len2 bt_len (by first | rfl | decide) x.b_len (POs.cons rfl (pv 0) POs.nil) rfl) pe_iD) ?_ ?_
    · refine pss_1D ?_
      exact ps_setD S__law_draws.nd rfl (by first | exact Or.inl rfl | exact Or.inr rfl) hL0n (pe_opD op_addD pe_iD (pe_bD cr_abs bt_abs (by first | rfl | decide) x.b_abs (POs.cons rfl (pe_ixD (ix_D2 (Room.units hr)) (by intro _ _; rfl) (pv 0) pe_iD) POs.nil) rfl)) rfl (by first | exact Or.inl rfl | exact Or.inr rfl)
    · exact pss_nD
  refine pss_cD ?_ ?_
  · refine ps_forD PassesOwn.never rfl (pi_range1D (by first | rfl | decide) x.b_range (pa_cD pe_iD pa_nD rfl) rfl) (pg_nm S__law_draws.nd rfl (by first | exact Or.inl rfl | exact Or.inr rfl) (by first | exact Or.inl rfl | exact Or.inr rfl) hL0n) ?_
    refine pss_cD ?_ ?_
    · exact ps_setD S__law_draws.nd rfl (by first | exact Or.inl rfl | exact Or.inr rfl) hL0n (pe_opD op_modD (pe_tD cr_int bt_int (by first | rfl | decide) x.b_int (POs.cons rfl (pe_opD op_addD (pe_opD op_mulD (pv 6) pe_iD) pe_iD) POs.nil) rfl) pe_iD) rfl (by first | exact Or.inl rfl | exact Or.inr rfl)
    refine pss_1D ?_
    exact ps_dropD (pe_appendD (pv 1) (pa_cD (pe_opD op_divD (pv 6) pe_iD) pa_nD rfl) rfl)
  refine pss_1D ?_
  exact ps_retD (pe_listRevD rfl (by first | rfl | decide) x.b_list (by first | rfl | decide) x.b_reversed (pv 1) rfl)
def N__law_take : List Str := ["draws", "bound"]
noncomputable def m__law_take : MS := (mSeq (mIf (bVal (sOp2 pEq (.ex (sN pLen2 [(.nm 0)])) (.ex (sC (.int 0))))) (mRet (sC (.int 0))) mNext) (mRet (sOp2 pMod (.ex (sN pInt [(.ex (sLM opPop 0 aN))])) (.nm 1))))
noncomputable def F__law_take : FnL := ofBodyL 0 m__law_take
theorem S__law_take : FnScope N__law_take ["draws", "bound"] (fnScope (top 28)) := C8.fnScope_by (by decide +kernel)
theorem ok__law_take (x : Tx P w K mg base tabs) : Cal P w K mg base 1 "_law_take" (dSpL ⟨P, w, K⟩ tabs 1 F__law_take) [] := by
  obtain ⟨f, fd, cdv, D⟩ := x.f__law_take
  refine cal_fnL (N := N__law_take) (k := 0) D (fun _ _ _ _ _ _ us hl => match us, hl with | [_, _], _ => rfl) S__law_take rfl rfl fun a A outer s H E hr => ?_
  refine pss_cD ?_ ?_
  · refine ps_ifD (pt_cmpD (op_eqDD (Room.units hr)) (nomark _) (pe_bD cr_len2 bt_len (by first | rfl | decide) x.b_len (POs.cons rfl (pv 0) POs.nil) rfl) pe_iD) ?_ ?_
    · refine pss_1D ?_
      exact ps_retD pe_iD
    · exact pss_nD
  refine pss_1D ?_
  exact ps_retD (pe_opD op_modD (pe_tD cr_int bt_int (by first | rfl | decide) x.b_int (POs.cons rfl (pe_popD (pv 0)) POs.nil) rfl) (pv 1))
def N__law_alike : List Str := ["found", "due", "k"]
noncomputable def m__law_alike (R : Fn) : MS := (mSeq (mIf (bOr (bTru (.ex (sOp1 (pIsi "list") (.nm 1)))) (bTru (.ex (sOp1 (pIsi "tuple") (.nm 1))))) (mSeq (mIf (bOr (bVal (sOp2 pNe (.ex (sOp1 (pIsi "list") (.nm 0))) (.ex (sOp1 (pIsi "list") (.nm 1))))) (bVal (sOp2 pNe (.ex (sOp1 (pIsi "tuple") (.nm 0))) (.ex (sOp1 (pIsi "tuple") (.nm 1)))))) (mRet (sC (.bool false))) mNext) (mRet (sAnd (sOp2 pEq (.ex (sN pLen2 [(.nm 0)])) (.ex (sN pLen2 [(.nm 1)]))) (sOp2 pEq (.ex (sListComp [2] ⟨(sRange1 (aC (sN pLen2 [(.nm 1)]) aN)), (.nm 2), (bNot (bTru (.ex (sCall R (aC (sOp2 pIx2 (.nm 0) (.nm 2)) (aC (sOp2 pIx2 (.nm 1) (.nm 2)) aN))))))⟩ [] (sVar 2))) (.ex (sLst aN)))))) mNext) (mSeq (mIf (bVal (sOp2 pIs (.nm 1) (.ex (sC .none)))) (mRet (sOp2 pIs (.nm 0) (.ex (sC .none)))) mNext) (mSeq (mIf (bOr (bTru (.ex (sOp1 (pIsi "bool") (.nm 1)))) (bTru (.ex (sOp1 (pIsi "bool") (.nm 0))))) (mRet (sAnd (sOp1 (pIsi "bool") (.nm 0)) (sAnd (sOp1 (pIsi "bool") (.nm 1)) (sOp2 pEq (.nm 0) (.nm 1))))) mNext) (mSeq (mIf (bTru (.ex (sOp1 (pIsi "int") (.nm 1)))) (mRet (sAnd (sOp1 (pIsi "int") (.nm 0)) (sOp2 pEq (.nm 0) (.nm 1)))) mNext) (mRet (sAnd (sOp1 (pIsi "str") (.nm 0)) (sOp2 pEq (.nm 0) (.nm 1))))))))
noncomputable def FF__law_alike (R : Fn) : Fn := ofBody 1 (m__law_alike R)
noncomputable def FN__law_alike : Nat → Fn
  | 0 => fun _ => .bad
  | k + 1 => FF__law_alike (FN__law_alike k)
noncomputable def F__law_alike : Fn := FN__law_alike 8
theorem S__law_alike : FnScope N__law_alike ["found", "due"] (fnScope (top 29)) := C8.fnScope_by (by decide +kernel)
theorem step__law_alike (x : Tx P w K mg base tabs) {R : Fn} {j : Nat} (hj : 0 ≤ j) (cR : Cal P w K mg base j "_law_alike" (dSp ⟨P, w, K⟩ tabs 2 R) []) : Cal P w K mg base (j + 1) "_law_alike" (dSp ⟨P, w, K⟩ tabs 2 (FF__law_alike R)) [] := by
  obtain ⟨f, fd, cdv, D⟩ := x.f__law_alike
  refine cal_fn (N := N__law_alike) D (fun _ _ _ _ _ _ us hl => match us, hl with | [_, _], _ => rfl) S__law_alike rfl fun A outer s H E hr => ?_
  refine pss_cD ?_ ?_
  · refine ps_ifD (PW.pt (pw_orD (pt_truD (pe_isiD (by first | rfl | decide) x.b_isinstance (by first | rfl | decide) x.b_list bt_list rfl (pv 1))) (pw_or1D (pt_truD (pe_isiD (by first | rfl | decide) x.b_isinstance (by first | rfl | decide) x.b_tuple bt_tuple rfl (pv 1)))))) ?_ ?_
    · refine pss_cD ?_ ?_
      · refine ps_ifD (PW.pt (pw_orD (pt_cmpD (op_neDD (Room.units hr)) (nomark _) (pe_isiD (by first | rfl | decide) x.b_isinstance (by first | rfl | decide) x.b_list bt_list rfl (pv 0)) (pe_isiD (by first | rfl | decide) x.b_isinstance (by first | rfl | decide) x.b_list bt_list rfl (pv 1))) (pw_or1D (pt_cmpD (op_neDD (Room.units hr)) (nomark _) (pe_isiD (by first | rfl | decide) x.b_isinstance (by first | rfl | decide) x.b_tuple bt_tuple rfl (pv 0)) (pe_isiD (by first | rfl | decide) x.b_isinstance (by first | rfl | decide) x.b_tuple bt_tuple rfl (pv 1)))))) ?_ ?_
        · refine pss_1D ?_
          exact ps_retD pe_bD'
        · exact pss_nD
      refine pss_1D ?_
      exact ps_retD (pe_andD (pe_cmpD (op_eqDD (Room.units hr)) (nomark _) (pe_bD cr_len2 bt_len (by first | rfl | decide) x.b_len (POs.cons rfl (pv 0) POs.nil) rfl) (pe_bD cr_len2 bt_len (by first | rfl | decide) x.b_len (POs.cons rfl (pv 1) POs.nil) rfl)) (pe_one (pe_cmpD (op_eqDD (Room.units hr)) (nomark _) (pe_lcN (own := [("k", 2)]) (LcOk.mk rfl S__law_alike.nd (pi_range1D (by first | rfl | decide) x.b_range (pa_cD (pe_bD cr_len2 bt_len (by first | rfl | decide) x.b_len (POs.cons rfl (pv 1) POs.nil) rfl) pa_nD rfl) rfl) (blk_by (by kernel_rfl)) (fun _ _ _ _ _ => ⟨rfl, (pg_nm S__law_alike.nd rfl (by first | exact Or.inl rfl | exact Or.inr rfl) (by first | exact Or.inl rfl | exact Or.inr rfl) hL0n), (pts_1D (pt_notD (pt_truD (pe_fnD cR hr (by omega) (by first | rfl | decide) (pa_cD (pe_ixD (ix_D2 (Room.units hr)) (by intro _ _; rfl) (pv 0) (pv 2)) (pa_cD (pe_ixD (ix_D2 (Room.units hr)) (by intro _ _; rfl) (pv 1) (pv 2)) pa_nD rfl) rfl) rfl (len_C (len_C len_N)) rfl))))⟩) (fun _ _ _ _ _ => ClIns.nil) (fun _ _ _ _ _ => (pe_varD (pv 2))) (fun _ => rfl) (show List.Nodup [2] from by decide) (show ∀ i ∈ ([2] : List Nat), i ∈ ([2] : List Nat) from by decide) hL0m)) (pe_lstD pa_nD))))
    · exact pss_nD
  refine pss_cD ?_ ?_
  · refine ps_ifD (pt_cmpD op_isD (nomark _) (pv 1) pe_nD) ?_ ?_
    · refine pss_1D ?_
      exact ps_retD (pe_cmpD op_isD (nomark _) (pv 0) pe_nD)
    · exact pss_nD
  refine pss_cD ?_ ?_
  · refine ps_ifD (PW.pt (pw_orD (pt_truD (pe_isiD (by first | rfl | decide) x.b_isinstance (by first | rfl | decide) x.b_bool bt_bool rfl (pv 1))) (pw_or1D (pt_truD (pe_isiD (by first | rfl | decide) x.b_isinstance (by first | rfl | decide) x.b_bool bt_bool rfl (pv 0)))))) ?_ ?_
    · refine pss_1D ?_
      exact ps_retD (pe_andD (pe_isiD (by first | rfl | decide) x.b_isinstance (by first | rfl | decide) x.b_bool bt_bool rfl (pv 0)) (pe_andD (pe_isiD (by first | rfl | decide) x.b_isinstance (by first | rfl | decide) x.b_bool bt_bool rfl (pv 1)) (pe_one (pe_cmpD (op_eqDD (Room.units hr)) (nomark _) (pv 0) (pv 1)))))
    · exact pss_nD
  refine pss_cD ?_ ?_
  · refine ps_ifD (pt_truD (pe_isiD (by first | rfl | decide) x.b_isinstance (by first | rfl | decide) x.b_int bt_int rfl (pv 1))) ?_ ?_
    · refine pss_1D ?_
      exact ps_retD (pe_andD (pe_isiD (by first | rfl | decide) x.b_isinstance (by first | rfl | decide) x.b_int bt_int rfl (pv 0)) (pe_one (pe_cmpD (op_eqDD (Room.units hr)) (nomark _) (pv 0) (pv 1))))
    · exact pss_nD
  refine pss_1D ?_
  exact ps_retD (pe_andD (pe_isiD (by first | rfl | decide) x.b_isinstance (by first | rfl | decide) x.b_str bt_str rfl (pv 0)) (pe_one (pe_cmpD (op_eqDD (Room.units hr)) (nomark _) (pv 0) (pv 1))))
theorem rec__law_alike (x : Tx P w K mg base tabs) : ∀ k : Nat, Cal P w K mg base (0 + k) "_law_alike" (dSp ⟨P, w, K⟩ tabs 2 (FN__law_alike k)) []
  | 0 => by
    obtain ⟨f, fd, cdv, D⟩ := x.f__law_alike
    exact cal_bad (ps := ["found", "due"]) D rfl (fun _ _ _ _ _ _ us hl => match us, hl with | [_, _], _ => rfl)
  | k + 1 => step__law_alike x (Nat.le_add_right _ _) (rec__law_alike x k)
theorem ok__law_alike (x : Tx P w K mg base tabs) : Cal P w K mg base 8 "_law_alike" (dSp ⟨P, w, K⟩ tabs 2 F__law_alike) [] := rec__law_alike x 8
def N__law_says : List Str := ["found", "due"]
noncomputable def m__law_says : MS := (mRet (sAnd (sOp1 (pIsi "bool") (.nm 0)) (sOp2 pEq (.nm 0) (.nm 1))))
noncomputable def F__law_says : Fn := ofBody 0 m__law_says
theorem S__law_says : FnScope N__law_says ["found", "due"] (fnScope (top 30)) := C8.fnScope_by (by decide +kernel)
theorem ok__law_says (x : Tx P w K mg base tabs) : Cal P w K mg base 1 "_law_says" (dSp ⟨P, w, K⟩ tabs 2 F__law_says) [] := by
  obtain ⟨f, fd, cdv, D⟩ := x.f__law_says
  refine cal_fn (N := N__law_says) (k := 0) D (fun _ _ _ _ _ _ us hl => match us, hl with | [_, _], _ => rfl) S__law_says rfl fun A outer s H E hr => ?_
  refine pss_1D ?_
  exact ps_retD (pe_andD (pe_isiD (by first | rfl | decide) x.b_isinstance (by first | rfl | decide) x.b_bool bt_bool rfl (pv 0)) (pe_one (pe_cmpD (op_eqDD (Room.units hr)) (nomark _) (pv 0) (pv 1))))
def N__law_box : List Str := ["draws", "many", "far", "long", "found", "axis", "low"]
noncomputable def m__law_box : MS := (mSeq (mSet 4 (sLst aN)) (mSeq (mFor (sRange1 (aC (sVar 1) aN)) (.nm 5) (mSeq (mSet 6 (sOp2 pSub (.ex (sCallL F__law_take 0 (aC (sOp2 pAdd (.ex (sOp2 pRep (.ex (sC (.int 2))) (.nm 2))) (.ex (sC (.int 1)))) aN))) (.nm 2))) (mDrop (sLM opAppend 4 (aC (sTup (aC (sVar 6) (aC (sOp2 pAdd (.ex (sOp2 pAdd (.nm 6) (.ex (sC (.int 1))))) (.ex (sCallL F__law_take 0 (aC (sVar 3) aN)))) aN))) aN))))) (mRet (sN pTuple [(.nm 4)]))))
noncomputable def F__law_box : FnL := ofBodyL 3 m__law_box
theorem S__law_box : FnScope N__law_box ["draws", "many", "far", "long"] (fnScope (top 31)) := C8.fnScope_by (by decide +kernel)
theorem ok__law_box (x : Tx P w K mg base tabs) : Cal P w K mg base 2 "_law_box" (dSpL ⟨P, w, K⟩ tabs 3 F__law_box) [] := by
  obtain ⟨f, fd, cdv, D⟩ := x.f__law_box
  refine cal_fnL (N := N__law_box) (k := 1) D (fun _ _ _ _ _ _ us hl => match us, hl with | [_, _, _, _], _ => rfl) S__law_box rfl rfl fun a A outer s H E hr => ?_
  refine pss_cD ?_ ?_
  · exact ps_setD S__law_box.nd rfl (by first | exact Or.inl rfl | exact Or.inr rfl) (hLcn (by decide) hL0n) (pe_lstD pa_nD) rfl (by first | exact Or.inl rfl | exact Or.inr rfl)
  refine pss_cD ?_ ?_
  · refine ps_forD PassesOwn.never rfl (pi_range1D (by first | rfl | decide) x.b_range (pa_cD (pe_varD (pv 1)) pa_nD rfl) rfl) (pg_nm S__law_box.nd rfl (by first | exact Or.inl rfl | exact Or.inr rfl) (by first | exact Or.inl rfl | exact Or.inr rfl) (hLcn (by decide) hL0n)) ?_
    refine pss_cD ?_ ?_
    · exact ps_setD S__law_box.nd rfl (by first | exact Or.inl rfl | exact Or.inr rfl) (hLcn (by decide) hL0n) (pe_opD op_subD (pe_fnLD (ok__law_take x) hr (by decide) (by first | rfl | decide) (pv 0) (pa_cD (pe_opD op_addD (pe_opD op_mulD pe_iD (pv 2)) pe_iD) pa_nD rfl) (len_C len_N) rfl) (pv 2)) rfl (by first | exact Or.inl rfl | exact Or.inr rfl)
    refine pss_1D ?_
    exact ps_dropD (pe_appendD (pv 4) (pa_cD (pe_tupD (pa_cD (pe_varD (pv 6)) (pa_cD (pe_opD op_addD (pe_opD op_addD (pv 6) pe_iD) (pe_fnLD (ok__law_take x) hr (by decide) (by first | rfl | decide) (pv 0) (pa_cD (pe_varD (pv 3)) pa_nD rfl) (len_C len_N) rfl)) pa_nD rfl) rfl)) pa_nD rfl) rfl)
  refine pss_1D ?_
  exact ps_retD (pe_tD cr_tuple bt_tuple (by first | rfl | decide) x.b_tuple (POs.cons rfl (pv 4) POs.nil) rfl)
def N__law_thing : List Str := ["draws", "many", "boxes", "far", "long", "rows", "k", "box"]
noncomputable def m__law_thing : MS := (mSeq (mSet 5 (sListComp [6] ⟨(sRange1 (aC (sOp2 pAdd (.ex (sC (.int 1))) (.ex (sCallL F__law_take 0 (aC (sVar 2) aN)))) aN)), (.nm 6), bYes⟩ [] (sCallL F__law_box 0 (aC (sVar 1) (aC (sVar 3) (aC (sVar 4) aN)))))) (mRet (sN pTuple [(.ex (sN pSorted [(.ex (sN pListC2 [(.ex (sN pDictC [(.ex (sListComp [7] ⟨(sIt (sVar 5)), (.nm 7), bYes⟩ [] (sTup (aC (sVar 7) (aC (sC (.int 1)) aN)))))]))]))]))])))
noncomputable def F__law_thing : FnL := ofBodyL 3 m__law_thing
theorem S__law_thing : FnScope N__law_thing ["draws", "many", "boxes", "far", "long"] (fnScope (top 32)) := C8.fnScope_by (by decide +kernel)
theorem ok__law_thing (x : Tx P w K mg base tabs) : Cal P w K mg base 3 "_law_thing" (dSpL ⟨P, w, K⟩ tabs 4 F__law_thing) [] := by
  obtain ⟨f, fd, cdv, D⟩ := x.f__law_thing
  refine cal_fnL (N := N__law_thing) (k := 2) D (fun _ _ _ _ _ _ us hl => match us, hl with | [_, _, _, _, _], _ => rfl) S__law_thing rfl rfl fun a A outer s H E hr => ?_
  refine pss_cD ?_ ?_
  · first | exact ps_setD' rfl (hLcn (by decide) hL0n) (ps_lcN (own := [("k", 6)]) (LcOk.mk rfl S__law_thing.nd (pi_range1D (by first | rfl | decide) x.b_range (pa_cD (pe_opD op_addD pe_iD (pe_fnLD (ok__law_take x) hr (by decide) (by first | rfl | decide) (pv 0) (pa_cD (pe_varD (pv 2)) pa_nD rfl) (len_C len_N) rfl)) pa_nD rfl) rfl) (blk_by (by kernel_rfl)) (fun _ _ _ _ _ => ⟨rfl, (pg_nm S__law_thing.nd rfl (by first | exact Or.inl rfl | exact Or.inr rfl) (by first | exact Or.inl rfl | exact Or.inr rfl) (hLcn (by decide) hL0n)), pts_nD⟩) (fun _ _ _ _ _ => ClIns.nil) (fun _ _ _ _ _ => (pe_fnLD (ok__law_box x) hr (by decide) (by first | rfl | decide) (pv 0) (pa_cD (pe_varD (pv 1)) (pa_cD (pe_varD (pv 3)) (pa_cD (pe_varD (pv 4)) pa_nD rfl) rfl) rfl) (len_C (len_C (len_C len_N))) rfl)) (fun _ => rfl) (show List.Nodup [6] from by decide) (show ∀ i ∈ ([6] : List Nat), i ∈ ([6] : List Nat) from by decide) (hLcm (by decide) hL0m)) rfl rfl rfl) | exact ps_setD S__law_thing.nd rfl (by first | exact Or.inl rfl | exact Or.inr rfl) (hLcn (by decide) hL0n) (pe_lcN (own := [("k", 6)]) (LcOk.mk rfl S__law_thing.nd (pi_range1D (by first | rfl | decide) x.b_range (pa_cD (pe_opD op_addD pe_iD (pe_fnLD (ok__law_take x) hr (by decide) (by first | rfl | decide) (pv 0) (pa_cD (pe_varD (pv 2)) pa_nD rfl) (len_C len_N) rfl)) pa_nD rfl) rfl) (blk_by (by kernel_rfl)) (fun _ _ _ _ _ => ⟨rfl, (pg_nm S__law_thing.nd rfl (by first | exact Or.inl rfl | exact Or.inr rfl) (by first | exact Or.inl rfl | exact Or.inr rfl) (hLcn (by decide) hL0n)), pts_nD⟩) (fun _ _ _ _ _ => ClIns.nil) (fun _ _ _ _ _ => (pe_fnLD (ok__law_box x) hr (by decide) (by first | rfl | decide) (pv 0) (pa_cD (pe_varD (pv 1)) (pa_cD (pe_varD (pv 3)) (pa_cD (pe_varD (pv 4)) pa_nD rfl) rfl) rfl) (len_C (len_C (len_C len_N))) rfl)) (fun _ => rfl) (show List.Nodup [6] from by decide) (show ∀ i ∈ ([6] : List Nat), i ∈ ([6] : List Nat) from by decide) (hLcm (by decide) hL0m))) rfl (by first | exact Or.inl rfl | exact Or.inr rfl)
  refine pss_1D ?_
  exact ps_retD (pe_tD cr_tuple bt_tuple (by first | rfl | decide) x.b_tuple (POs.cons rfl (pe_bD (cr_sortedD (Room.units hr)) bt_sorted (by first | rfl | decide) x.b_sorted (POs.cons rfl (pe_tD (cr_list2 rfl) bt_list (by first | rfl | decide) x.b_list (POs.cons rfl (pe_tD (cr_dict rfl (Room.units hr)) bt_dict (by first | rfl | decide) x.b_dict (POs.cons rfl (pe_lcN (own := [("box", 7)]) (LcOk.mk rfl S__law_thing.nd (pi_D (pe_varD (pv 5))) (blk_by (by kernel_rfl)) (fun _ _ _ _ _ => ⟨rfl, (pg_nm S__law_thing.nd rfl (by first | exact Or.inl rfl | exact Or.inr rfl) (by first | exact Or.inl rfl | exact Or.inr rfl) (hLcn (by decide) hL0n)), pts_nD⟩) (fun _ _ _ _ _ => ClIns.nil) (fun _ _ _ _ _ => (pe_tupD (pa_cD (pe_varD (pv 7)) (pa_cD pe_iD pa_nD rfl) rfl))) (fun _ => rfl) (show List.Nodup [7] from by decide) (show ∀ i ∈ ([7] : List Nat), i ∈ ([7] : List Nat) from by decide) (hLcm (by decide) hL0m))) POs.nil) rfl) POs.nil) rfl) POs.nil) rfl) POs.nil) rfl)
def N__law_clash : List Str := ["one", "other", "k"]
noncomputable def m__law_clash : MS := (mRet (sOp2 pEq (.ex (sListComp [2] ⟨(sRange1 (aC (sN pLen2 [(.nm 0)]) aN)), (.nm 2), (bOr (bVal (sOp2 pGe (.ex (sOp2 pIx2 (.ex (sOp2 pIx2 (.nm 0) (.nm 2))) (.ex (sC (.int 0))))) (.ex (sOp2 pIx2 (.ex (sOp2 pIx2 (.nm 1) (.nm 2))) (.ex (sC (.int 1))))))) (bVal (sOp2 pGe (.ex (sOp2 pIx2 (.ex (sOp2 pIx2 (.nm 1) (.nm 2))) (.ex (sC (.int 0))))) (.ex (sOp2 pIx2 (.ex (sOp2 pIx2 (.nm 0) (.nm 2))) (.ex (sC (.int 1))))))))⟩ [] (sVar 2))) (.ex (sLst aN))))
noncomputable def F__law_clash : Fn := ofBody 1 m__law_clash
theorem S__law_clash : FnScope N__law_clash ["one", "other"] (fnScope (top 33)) := C8.fnScope_by (by decide +kernel)
theorem ok__law_clash (x : Tx P w K mg base tabs) : Cal P w K mg base 1 "_law_clash" (dSp ⟨P, w, K⟩ tabs 2 F__law_clash) [] := by
  obtain ⟨f, fd, cdv, D⟩ := x.f__law_clash
  refine cal_fn (N := N__law_clash) (k := 0) D (fun _ _ _ _ _ _ us hl => match us, hl with | [_, _], _ => rfl) S__law_clash rfl fun A outer s H E hr => ?_
  refine pss_1D ?_
  exact ps_retD (pe_cmpD (op_eqDD (Room.units hr)) (nomark _) (pe_lcN (own := [("k", 2)]) (LcOk.mk rfl S__law_clash.nd (pi_range1D (by first | rfl | decide) x.b_range (pa_cD (pe_bD cr_len2 bt_len (by first | rfl | decide) x.b_len (POs.cons rfl (pv 0) POs.nil) rfl) pa_nD rfl) rfl) (blk_by (by kernel_rfl)) (fun _ _ _ _ _ => ⟨rfl, (pg_nm S__law_clash.nd rfl (by first | exact Or.inl rfl | exact Or.inr rfl) (by first | exact Or.inl rfl | exact Or.inr rfl) hL0n), (pts_1D (PW.pt (pw_orD (pt_cmpD (op_geD (Room.units hr)) (nomark _) (pe_ixD (ix_D2 (Room.units hr)) (by intro _ _; rfl) (pe_ixD (ix_D2 (Room.units hr)) (by intro _ _; rfl) (pv 0) (pv 2)) pe_iD) (pe_ixD (ix_D2 (Room.units hr)) (by intro _ _; rfl) (pe_ixD (ix_D2 (Room.units hr)) (by intro _ _; rfl) (pv 1) (pv 2)) pe_iD)) (pw_or1D (pt_cmpD (op_geD (Room.units hr)) (nomark _) (pe_ixD (ix_D2 (Room.units hr)) (by intro _ _; rfl) (pe_ixD (ix_D2 (Room.units hr)) (by intro _ _; rfl) (pv 1) (pv 2)) pe_iD) (pe_ixD (ix_D2 (Room.units hr)) (by intro _ _; rfl) (pe_ixD (ix_D2 (Room.units hr)) (by intro _ _; rfl) (pv 0) (pv 2)) pe_iD))))))⟩) (fun _ _ _ _ _ => ClIns.nil) (fun _ _ _ _ _ => (pe_varD (pv 2))) (fun _ => rfl) (show List.Nodup [2] from by decide) (show ∀ i ∈ ([2] : List Nat), i ∈ ([2] : List Nat) from by decide) hL0m)) (pe_lstD pa_nD))
def N__law_within : List Str := ["box", "place", "k"]
noncomputable def m__law_within : MS := (mRet (sOp2 pEq (.ex (sListComp [2] ⟨(sRange1 (aC (sN pLen2 [(.nm 0)]) aN)), (.nm 2), (bNot (bVal (sCh pLt pLt (.ex (sOp2 pIx2 (.ex (sOp2 pIx2 (.nm 0) (.nm 2))) (.ex (sC (.int 0))))) (.ex (sOp2 pIx2 (.nm 1) (.nm 2))) (.ex (sOp2 pIx2 (.ex (sOp2 pIx2 (.nm 0) (.nm 2))) (.ex (sC (.int 1))))))))⟩ [] (sVar 2))) (.ex (sLst aN))))
noncomputable def F__law_within : Fn := ofBody 1 m__law_within
theorem S__law_within : FnScope N__law_within ["box", "place"] (fnScope (top 34)) := C8.fnScope_by (by decide +kernel)
theorem ok__law_within (x : Tx P w K mg base tabs) : Cal P w K mg base 1 "_law_within" (dSp ⟨P, w, K⟩ tabs 2 F__law_within) [] := by
  obtain ⟨f, fd, cdv, D⟩ := x.f__law_within
  refine cal_fn (N := N__law_within) (k := 0) D (fun _ _ _ _ _ _ us hl => match us, hl with | [_, _], _ => rfl) S__law_within rfl fun A outer s H E hr => ?_
  refine pss_1D ?_
  exact ps_retD (pe_cmpD (op_eqDD (Room.units hr)) (nomark _) (pe_lcN (own := [("k", 2)]) (LcOk.mk rfl S__law_within.nd (pi_range1D (by first | rfl | decide) x.b_range (pa_cD (pe_bD cr_len2 bt_len (by first | rfl | decide) x.b_len (POs.cons rfl (pv 0) POs.nil) rfl) pa_nD rfl) rfl) (blk_by (by kernel_rfl)) (fun _ _ _ _ _ => ⟨rfl, (pg_nm S__law_within.nd rfl (by first | exact Or.inl rfl | exact Or.inr rfl) (by first | exact Or.inl rfl | exact Or.inr rfl) hL0n), (pts_1D (pt_notD (pt_chD (op_ltD (Room.units hr)) (op_ltD (Room.units hr)) (by with_unfolding_all rfl) (pe_ixD (ix_D2 (Room.units hr)) (by intro _ _; rfl) (pe_ixD (ix_D2 (Room.units hr)) (by intro _ _; rfl) (pv 0) (pv 2)) pe_iD) (pe_ixD (ix_D2 (Room.units hr)) (by intro _ _; rfl) (pv 1) (pv 2)) (pe_ixD (ix_D2 (Room.units hr)) (by intro _ _; rfl) (pe_ixD (ix_D2 (Room.units hr)) (by intro _ _; rfl) (pv 0) (pv 2)) pe_iD))))⟩) (fun _ _ _ _ _ => ClIns.nil) (fun _ _ _ _ _ => (pe_varD (pv 2))) (fun _ => rfl) (show List.Nodup [2] from by decide) (show ∀ i ∈ ([2] : List Nat), i ∈ ([2] : List Nat) from by decide) hL0m)) (pe_lstD pa_nD))
def N__law_units : List Str := ["boxes", "found", "box", "rows", "low", "high", "wider", "row", "step"]
noncomputable def m__law_units : MS := (mSeq (mSet 1 sDict0) (mSeq (mFor (sIt (sVar 0)) (.nm 2) (mSeq (mSet 3 (sLst (aC (sTup aN) aN))) (mSeq (mFor (sIt (sVar 2)) (.tup [(.nm 4), (.nm 5)]) (mSeq (mSet 6 (sLst aN)) (mSeq (mFor (sIt (sVar 3)) (.nm 7) (mSet 6 (sOp2 pAdd (.nm 6) (.ex (sListComp [8] ⟨(sRange2 (aC (sVar 4) (aC (sVar 5) aN))), (.nm 8), bYes⟩ [] (sOp2 pAdd (.nm 7) (.ex (sTup (aC (sVar 8) aN))))))))) (mSet 3 (sVar 6))))) (mFor (sIt (sVar 3)) (.nm 7) (mStore 1 (sVar 7) (sC (.int 1))))))) (mRetV 1)))
noncomputable def F__law_units : Fn := ofBody 8 m__law_units
theorem S__law_units : FnScope N__law_units ["boxes"] (fnScope (top 35)) := C8.fnScope_by (by decide +kernel)
theorem ok__law_units (x : Tx P w K mg base tabs) : Cal P w K mg base 1 "_law_units" (dSp ⟨P, w, K⟩ tabs 1 F__law_units) [] := by
  obtain ⟨f, fd, cdv, D⟩ := x.f__law_units
  refine cal_fn (N := N__law_units) (k := 0) D (fun _ _ _ _ _ _ us hl => match us, hl with | [_], _ => rfl) S__law_units rfl fun A outer s H E hr => ?_
  refine pss_cD ?_ ?_
  · exact ps_setD S__law_units.nd rfl (by first | exact Or.inl rfl | exact Or.inr rfl) hL0n pe_dict0D rfl (by first | exact Or.inl rfl | exact Or.inr rfl)
  refine pss_cD ?_ ?_
  · refine ps_forD PassesOwn.never rfl (pi_D (pe_varD (pv 0))) (pg_nm S__law_units.nd rfl (by first | exact Or.inl rfl | exact Or.inr rfl) (by first | exact Or.inl rfl | exact Or.inr rfl) hL0n) ?_
    refine pss_cD ?_ ?_
    · exact ps_setD S__law_units.nd rfl (by first | exact Or.inl rfl | exact Or.inr rfl) hL0n (pe_lstD (pa_cD (pe_tupD pa_nD) pa_nD rfl)) rfl (by first | exact Or.inl rfl | exact Or.inr rfl)
    refine pss_cD ?_ ?_
    · refine ps_forD PassesOwn.never rfl (pi_D (pe_varD (pv 2))) (pg_tp rfl rfl (pgs_c rfl (pg_nm S__law_units.nd rfl (by first | exact Or.inl rfl | exact Or.inr rfl) (by first | exact Or.inl rfl | exact Or.inr rfl) hL0n) (pgs_c rfl (pg_nm S__law_units.nd rfl (by first | exact Or.inl rfl | exact Or.inr rfl) (by first | exact Or.inl rfl | exact Or.inr rfl) hL0n) pgs_n)) rfl) ?_
      refine pss_cD ?_ ?_
      · exact ps_setD S__law_units.nd rfl (by first | exact Or.inl rfl | exact Or.inr rfl) hL0n (pe_lstD pa_nD) rfl (by first | exact Or.inl rfl | exact Or.inr rfl)
      refine pss_cD ?_ ?_
      · refine ps_forD PassesOwn.never rfl (pi_D (pe_varD (pv 3))) (pg_nm S__law_units.nd rfl (by first | exact Or.inl rfl | exact Or.inr rfl) (by first | exact Or.inl rfl | exact Or.inr rfl) hL0n) ?_
        refine pss_1D ?_
        exact ps_setD S__law_units.nd rfl (by first | exact Or.inl rfl | exact Or.inr rfl) hL0n (pe_opD op_addD (pv 6) (pe_lcN (own := [("step", 8)]) (LcOk.mk rfl S__law_units.nd (pi_range2D (by first | rfl | decide) x.b_range (pa_cD (pe_varD (pv 4)) (pa_cD (pe_varD (pv 5)) pa_nD rfl) rfl) rfl rfl) (blk_by (by kernel_rfl)) (fun _ _ _ _ _ => ⟨rfl, (pg_nm S__law_units.nd rfl (by first | exact Or.inl rfl | exact Or.inr rfl) (by first | exact Or.inl rfl | exact Or.inr rfl) hL0n), pts_nD⟩) (fun _ _ _ _ _ => ClIns.nil) (fun _ _ _ _ _ => (pe_opD op_addD (pv 7) (pe_tupD (pa_cD (pe_varD (pv 8)) pa_nD rfl)))) (fun _ => rfl) (show List.Nodup [8] from by decide) (show ∀ i ∈ ([8] : List Nat), i ∈ ([8] : List Nat) from by decide) hL0m))) rfl (by first | exact Or.inl rfl | exact Or.inr rfl)
      refine pss_1D ?_
      exact ps_setD S__law_units.nd rfl (by first | exact Or.inl rfl | exact Or.inr rfl) hL0n (pe_varD (pv 6)) rfl (by first | exact Or.inl rfl | exact Or.inr rfl)
    refine pss_1D ?_
    refine ps_forD PassesOwn.never rfl (pi_D (pe_varD (pv 3))) (pg_nm S__law_units.nd rfl (by first | exact Or.inl rfl | exact Or.inr rfl) (by first | exact Or.inl rfl | exact Or.inr rfl) hL0n) ?_
    refine pss_1D ?_
    exact ps_storeD (Room.units hr) pe_iD (pv 1) (pe_varD (pv 7))
  refine pss_1D ?_
  exact ps_retVD (pv 1) rfl
def N__law_bent : List Str := ["draws", "box", "k", "low", "high", "new"]
noncomputable def m__law_bent : MS := (mSeq (mSet 2 (sCallL F__law_take 0 (aC (sN pLen2 [(.nm 1)]) aN))) (mSeq (mAsg (.tup [(.nm 3), (.nm 4)]) (sOp2 pIx2 (.nm 1) (.nm 2))) (mSeq (mSet 5 (sOp2 pIx2 (.ex (sLst (aC (sTup (aC (sVar 4) (aC (sVar 3) aN))) (aC (sTup (aC (sVar 3) (aC (sVar 3) aN))) (aC (sTup (aC (sVar 3) aN)) (aC (sLst (aC (sVar 3) (aC (sVar 4) aN))) (aC (sTup (aC (sVar 3) (aC (sC (.int 1001)) aN))) (aC (sTup (aC (sOp1 pNeg (.ex (sC (.int 1001)))) (aC (sVar 4) aN))) (aC (sTup (aC (sC (.bool true)) (aC (sC (.int 2)) aN))) (aC (sTup (aC (sC .none) (aC (sVar 4) aN))) (aC (sC .none) (aC (sTup (aC (sVar 3) (aC (sVar 4) (aC (sVar 4) aN)))) (aC (sTup (aC (sC (.str "1")) (aC (sVar 4) aN))) aN))))))))))))) (.ex (sCallL F__law_take 0 (aC (sC (.int 11)) aN))))) (mRet (sOp2 pIx2 (.ex (sLst (aC (sOp2 pAdd (.ex (sOp2 pAdd (.ex (sSl (.nm 1) .no (.ex (sVar 2)))) (.ex (sTup (aC (sVar 5) aN))))) (.ex (sSl (.nm 1) (.ex (sOp2 pAdd (.nm 2) (.ex (sC (.int 1))))) .no))) (aC (sN pListC2 [(.nm 1)]) (aC (sSl (.nm 1) .no (.ex (sC (.int 1)))) (aC (sOp2 pAdd (.ex (sOp2 pAdd (.nm 1) (.nm 1))) (.ex (sSl (.nm 1) .no (.ex (sC (.int 1)))))) (aC (sC .none) (aC (sTup aN) aN)))))))) (.ex (sN pMin [(.ex (sC (.int 5))), (.ex (sOp2 pDiv (.ex (sCallL F__law_take 0 (aC (sC (.int 9)) aN))) (.ex (sC (.int 2)))))])))))))
noncomputable def F__law_bent : FnL := ofBodyL 4 m__law_bent
theorem S__law_bent : FnScope N__law_bent ["draws", "box"] (fnScope (top 36)) := C8.fnScope_by (by decide +kernel)
theorem ok__law_bent (x : Tx P w K mg base tabs) : Cal P w K mg base 2 "_law_bent" (dSpL ⟨P, w, K⟩ tabs 1 F__law_bent) [] := by
  obtain ⟨f, fd, cdv, D⟩ := x.f__law_bent
  refine cal_fnL (N := N__law_bent) (k := 1) D (fun _ _ _ _ _ _ us hl => match us, hl with | [_, _], _ => rfl) S__law_bent rfl rfl fun a A outer s H E hr => ?_
  refine pss_cD ?_ ?_
  · exact ps_setD S__law_bent.nd rfl (by first | exact Or.inl rfl | exact Or.inr rfl) (hLcn (by decide) hL0n) (pe_fnLD (ok__law_take x) hr (by decide) (by first | rfl | decide) (pv 0) (pa_cD (pe_bD cr_len2 bt_len (by first | rfl | decide) x.b_len (POs.cons rfl (pv 1) POs.nil) rfl) pa_nD rfl) (len_C len_N) rfl) rfl (by first | exact Or.inl rfl | exact Or.inr rfl)
  refine pss_cD ?_ ?_
  · exact ps_asgD (pe_ixD (ix_D2 (Room.units hr)) (by intro _ _; rfl) (pv 1) (pv 2)) (pg_tp rfl rfl (pgs_c rfl (pg_nm S__law_bent.nd rfl (by first | exact Or.inl rfl | exact Or.inr rfl) (by first | exact Or.inl rfl | exact Or.inr rfl) (hLcn (by decide) hL0n)) (pgs_c rfl (pg_nm S__law_bent.nd rfl (by first | exact Or.inl rfl | exact Or.inr rfl) (by first | exact Or.inl rfl | exact Or.inr rfl) (hLcn (by decide) hL0n)) pgs_n)) rfl)
  refine pss_cD ?_ ?_
  · exact ps_setD S__law_bent.nd rfl (by first | exact Or.inl rfl | exact Or.inr rfl) (hLcn (by decide) hL0n) (pe_ixD (ix_D2 (Room.units hr)) (by intro _ _; rfl) (pe_lstD (pa_cD (pe_tupD (pa_cD (pe_varD (pv 4)) (pa_cD (pe_varD (pv 3)) pa_nD rfl) rfl)) (pa_cD (pe_tupD (pa_cD (pe_varD (pv 3)) (pa_cD (pe_varD (pv 3)) pa_nD rfl) rfl)) (pa_cD (pe_tupD (pa_cD (pe_varD (pv 3)) pa_nD rfl)) (pa_cD (pe_lstD (pa_cD (pe_varD (pv 3)) (pa_cD (pe_varD (pv 4)) pa_nD rfl) rfl)) (pa_cD (pe_tupD (pa_cD (pe_varD (pv 3)) (pa_cD pe_iD pa_nD rfl) rfl)) (pa_cD (pe_tupD (pa_cD (pe_unD un_negD pe_iD) (pa_cD (pe_varD (pv 4)) pa_nD rfl) rfl)) (pa_cD (pe_tupD (pa_cD pe_bD' (pa_cD pe_iD pa_nD rfl) rfl)) (pa_cD (pe_tupD (pa_cD pe_nD (pa_cD (pe_varD (pv 4)) pa_nD rfl) rfl)) (pa_cD pe_nD (pa_cD (pe_tupD (pa_cD (pe_varD (pv 3)) (pa_cD (pe_varD (pv 4)) (pa_cD (pe_varD (pv 4)) pa_nD rfl) rfl) rfl)) (pa_cD (pe_tupD (pa_cD pe_sD (pa_cD (pe_varD (pv 4)) pa_nD rfl) rfl)) pa_nD rfl) rfl) rfl) rfl) rfl) rfl) rfl) rfl) rfl) rfl) rfl)) (pe_fnLD (ok__law_take x) hr (by decide) (by first | rfl | decide) (pv 0) (pa_cD pe_iD pa_nD rfl) (len_C len_N) rfl)) rfl (by first | exact Or.inl rfl | exact Or.inr rfl)
  refine pss_1D ?_
  exact ps_retD (pe_ixD (ix_D2 (Room.units hr)) (by intro _ _; rfl) (pe_lstD (pa_cD (pe_opD op_addD (pe_opD op_addD (pe_slD (pv 1) rfl ⟨_, rfl, (pe_varD (pv 2))⟩) (pe_tupD (pa_cD (pe_varD (pv 5)) pa_nD rfl))) (pe_slD (pv 1) ⟨_, rfl, (pe_opD op_addD (pv 2) pe_iD)⟩ rfl)) (pa_cD (pe_tD (cr_list2 rfl) bt_list (by first | rfl | decide) x.b_list (POs.cons rfl (pv 1) POs.nil) rfl) (pa_cD (pe_slD (pv 1) rfl ⟨_, rfl, pe_iD⟩) (pa_cD (pe_opD op_addD (pe_opD op_addD (pv 1) (pv 1)) (pe_slD (pv 1) rfl ⟨_, rfl, pe_iD⟩)) (pa_cD pe_nD (pa_cD (pe_tupD pa_nD) pa_nD rfl) rfl) rfl) rfl) rfl) rfl)) (pe_bD (cr_minD rfl) bt_min (by first | rfl | decide) x.b_min (POs.cons rfl pe_iD (POs.cons rfl (pe_opD op_divD (pe_fnLD (ok__law_take x) hr (by decide) (by first | rfl | decide) (pv 0) (pa_cD pe_iD pa_nD rfl) (len_C len_N) rfl) pe_iD) POs.nil)) rfl))
def N_law : List Str := ["script", "draws", "turn", "many", "one", "other", "axis", "both", "k", "meets", "place", "moved", "left", "box", "j", "unit", "thing", "more", "wall", "cut", "same", "bad", "value", "far", "eight"]
noncomputable def m_law : MS := (mSeq (mSet 1 (sCall F__law_draws (aC (sVar 0) aN))) (mSeq (mFor (sRange1 (aC (sC (.int 6)) aN)) (.nm 2) (mSeq (mSet 3 (sOp2 pAdd (.ex (sC (.int 2))) (.ex (sCallL F__law_take 1 (aC (sC (.int 2)) aN))))) (mSeq (mAsg (.tup [(.nm 4), (.nm 5)]) (sTup (aC (sCallL F__law_box 1 (aC (sVar 3) (aC (sC (.int 3)) (aC (sC (.int 3)) aN)))) (aC (sCallL F__law_box 1 (aC (sVar 3) (aC (sC (.int 3)) (aC (sC (.int 3)) aN)))) aN)))) (mSeq (mIf (bVal (sOp2 pEq (.ex (sCallL F__law_take 1 (aC (sC (.int 4)) aN))) (.ex (sC (.int 0))))) (mSeq (mSet 6 (sCallL F__law_take 1 (aC (sVar 3) aN))) (mSet 5 (sOp2 pAdd (.ex (sOp2 pAdd (.ex (sSl (.nm 5) .no (.ex (sVar 6)))) (.ex (sTup (aC (sTup (aC (sOp2 pIx2 (.ex (sOp2 pIx2 (.nm 4) (.nm 6))) (.ex (sC (.int 1)))) (aC (sOp2 pAdd (.ex (sOp2 pIx2 (.ex (sOp2 pIx2 (.nm 4) (.nm 6))) (.ex (sC (.int 1))))) (.ex (sC (.int 2)))) aN))) aN))))) (.ex (sSl (.nm 5) (.ex (sOp2 pAdd (.nm 6) (.ex (sC (.int 1))))) .no))))) mNext) (mSeq (mIf (bOr (bNot (bTru (.ex (sCall F__law_says (aC (sCall F_is_box (aC (sVar 4) aN)) (aC (sC (.bool true)) aN)))))) (bNot (bTru (.ex (sCall F__law_says (aC (sCall F_is_box (aC (sCallL F__law_bent 1 (aC (sVar 4) aN)) aN)) (aC (sC (.bool false)) aN))))))) (mRet (sC (.bool false))) mNext) (mSeq (mSet 7 (sN pTuple [(.ex (sListComp [8] ⟨(sRange1 (aC (sVar 3) aN)), (.nm 8), bYes⟩ [] (sTup (aC (sN pMax [(.ex (sOp2 pIx2 (.ex (sOp2 pIx2 (.nm 4) (.nm 8))) (.ex (sC (.int 0))))), (.ex (sOp2 pIx2 (.ex (sOp2 pIx2 (.nm 5) (.nm 8))) (.ex (sC (.int 0)))))]) (aC (sN pMin [(.ex (sOp2 pIx2 (.ex (sOp2 pIx2 (.nm 4) (.nm 8))) (.ex (sC (.int 1))))), (.ex (sOp2 pIx2 (.ex (sOp2 pIx2 (.nm 5) (.nm 8))) (.ex (sC (.int 1)))))]) aN)))))])) (mSeq (mSet 9 (sCall F__law_clash (aC (sVar 4) (aC (sVar 5) aN)))) (mSeq (mIf (bOr (bNot (bTru (.ex (sCall F__law_says (aC (sCall F_clash (aC (sVar 4) (aC (sVar 5) aN))) (aC (sVar 9) aN)))))) (bOr (bNot (bTru (.ex (sCall F__law_says (aC (sCall F_clash (aC (sVar 5) (aC (sVar 4) aN))) (aC (sVar 9) aN)))))) (bNot (bTru (.ex (sCall F__law_alike (aC (sCall F_shared (aC (sVar 4) (aC (sVar 5) aN))) (aC (sIf (bTru (.nm 9)) (sVar 7) (sC .none)) aN)))))))) (mRet (sC (.bool false))) mNext) (mSeq (mSet 10 (sN pTuple [(.ex (sListComp [6] ⟨(sRange1 (aC (sVar 3) aN)), (.nm 6), bYes⟩ [] (sOp2 pSub (.ex (sCallL F__law_take 1 (aC (sC (.int 9)) aN))) (.ex (sC (.int 4))))))])) (mSeq (mSet 11 (sN pTuple [(.ex (sListComp [8] ⟨(sRange1 (aC (sVar 3) aN)), (.nm 8), bYes⟩ [] (sTup (aC (sOp2 pAdd (.ex (sOp2 pIx2 (.ex (sOp2 pIx2 (.nm 4) (.nm 8))) (.ex (sC (.int 0))))) (.ex (sOp2 pIx2 (.nm 10) (.nm 8)))) (aC (sOp2 pAdd (.ex (sOp2 pIx2 (.ex (sOp2 pIx2 (.nm 4) (.nm 8))) (.ex (sC (.int 1))))) (.ex (sOp2 pIx2 (.nm 10) (.nm 8)))) aN)))))])) (mSeq (mIf (bOr (bNot (bTru (.ex (sCall F__law_alike (aC (sCall F_shifted (aC (sVar 4) (aC (sVar 10) aN))) (aC (sVar 11) aN)))))) (bOr (bNot (bTru (.ex (sCall F__law_says (aC (sCall F_holds (aC (sVar 4) (aC (sVar 10) aN))) (aC (sCall F__law_within (aC (sVar 4) (aC (sVar 10) aN))) aN)))))) (bVal (sOp2 pNe (.ex (sCall F_room_of (aC (sVar 4) aN))) (.ex (sN pLen2 [(.ex (sCall F__law_units (aC (sLst (aC (sVar 4) aN)) aN)))])))))) (mRet (sC (.bool false))) mNext) (mSeq (mSet 12 (sCall F_without (aC (sVar 4) (aC (sVar 5) aN)))) (mSeq (mIf (bOr (bVal (sOp2 pNe (.ex (sListComp [13] ⟨(sIt (sVar 12)), (.nm 13), (bTru (.ex (sCall F__law_clash (aC (sVar 13) (aC (sVar 5) aN)))))⟩ [] (sVar 13))) (.ex (sLst aN)))) (bVal (sOp2 pNe (.ex (sListComp [8] ⟨(sRange1 (aC (sN pLen2 [(.nm 12)]) aN)), (.nm 8), (bVal (sOp2 pNe (.ex (sListComp [14] ⟨(sRange1 (aC (sVar 8) aN)), (.nm 14), (bTru (.ex (sCall F__law_clash (aC (sOp2 pIx2 (.nm 12) (.nm 14)) (aC (sOp2 pIx2 (.nm 12) (.nm 8)) aN)))))⟩ [] (sVar 14))) (.ex (sLst aN))))⟩ [] (sVar 8))) (.ex (sLst aN))))) (mRet (sC (.bool false))) mNext) (mSeq (mIf (bVal (sOp2 pNe (.ex (sN pSorted [(.ex (sN pListC2 [(.ex (sCall F__law_units (aC (sVar 12) aN)))]))])) (.ex (sN pSorted [(.ex (sListComp [15] ⟨(sItK (sCall F__law_units (aC (sLst (aC (sVar 4) aN)) aN))), (.nm 15), (bVal (sOp2 pNotIn2 (.nm 15) (.ex (sCall F__law_units (aC (sLst (aC (sVar 5) aN)) aN)))))⟩ [] (sVar 15)))])))) (mRet (sC (.bool false))) mNext) (mSeq (mAsg (.tup [(.nm 16), (.nm 17)]) (sTup (aC (sCallL F__law_thing 1 (aC (sVar 3) (aC (sC (.int 4)) (aC (sC (.int 3)) (aC (sC (.int 3)) aN))))) (aC (sCallL F__law_thing 1 (aC (sVar 3) (aC (sC (.int 3)) (aC (sC (.int 3)) (aC (sC (.int 3)) aN))))) aN)))) (mSeq (mIf (bOr (bNot (bTru (.ex (sCall F__law_says (aC (sCall F_is_thing (aC (sVar 16) aN)) (aC (sC (.bool true)) aN)))))) (bOr (bVal (sOp2 pNe (.ex (sCall F_dimension (aC (sVar 16) aN))) (.nm 3))) (bNot (bTru (.ex (sCall F__law_alike (aC (sCall F_at (aC (sVar 16) (aC (sVar 10) aN))) (aC (sN pTuple [(.ex (sListComp [13] ⟨(sIt (sVar 16)), (.nm 13), bYes⟩ [] (sCall F_shifted (aC (sVar 13) (aC (sVar 10) aN)))))]) aN)))))))) (mRet (sC (.bool false))) mNext) (mSeq (mIf (bNot (bTru (.ex (sCall F__law_says (aC (sCall F_clashes (aC (sVar 16) (aC (sVar 17) aN))) (aC (sOp2 pNe (.ex (sListComp [13] ⟨(sIt (sVar 16)), (.nm 13), (bVal (sOp2 pNe (.ex (sListComp [18] ⟨(sIt (sVar 17)), (.nm 18), (bTru (.ex (sCall F__law_clash (aC (sVar 13) (aC (sVar 18) aN)))))⟩ [] (sVar 18))) (.ex (sLst aN))))⟩ [] (sVar 13))) (.ex (sLst aN))) aN)))))) (mRet (sC (.bool false))) mNext) (mSeq (mIf (bOr (bVal (sOp2 pNe (.ex (sCall F_volume (aC (sVar 16) aN))) (.ex (sN pLen2 [(.ex (sCall F__law_units (aC (sVar 16) aN)))])))) (bVal (sOp2 pNe (.ex (sCall F_volume (aC (sOp2 pAdd (.ex (sN pListC2 [(.nm 16)])) (.ex (sN pListC2 [(.nm 17)]))) aN))) (.ex (sN pLen2 [(.ex (sCall F__law_units (aC (sOp2 pAdd (.nm 16) (.nm 17)) aN)))]))))) (mRet (sC (.bool false))) mNext) (mSeq (mSet 19 (sIf (bVal (sOp2 pNe (.nm 12) (.ex (sLst aN)))) (sOp2 pAdd (.ex (sN pTuple [(.nm 12)])) (.nm 17)) (sVar 17))) (mSeq (mSet 20 (sOp2 pEq (.ex (sN pSorted [(.ex (sN pListC2 [(.ex (sCall F__law_units (aC (sOp2 pAdd (.nm 19) (.ex (sTup (aC (sVar 5) aN)))) aN)))]))])) (.ex (sN pSorted [(.ex (sN pListC2 [(.ex (sCall F__law_units (aC (sOp2 pAdd (.ex (sTup (aC (sVar 4) (aC (sVar 5) aN)))) (.nm 17)) aN)))]))])))) (mSeq (mIf (bOr (bNot (bTru (.ex (sCall F__law_says (aC (sCall F_same_room (aC (sOp2 pAdd (.nm 19) (.ex (sTup (aC (sVar 5) aN)))) (aC (sOp2 pAdd (.ex (sTup (aC (sVar 4) (aC (sVar 5) aN)))) (.nm 17)) aN))) (aC (sVar 20) aN)))))) (bNot (bTru (.ex (sCall F__law_says (aC (sCall F_same_room (aC (sVar 16) (aC (sVar 17) aN))) (aC (sOp2 pEq (.ex (sN pSorted [(.ex (sN pListC2 [(.ex (sCall F__law_units (aC (sVar 16) aN)))]))])) (.ex (sN pSorted [(.ex (sN pListC2 [(.ex (sCall F__law_units (aC (sVar 17) aN)))]))]))) aN))))))) (mRet (sC (.bool false))) mNext) (mSeq (mIf (bNot (bTru (.ex (sCall F__law_alike (aC (sCall F_hull (aC (sVar 16) aN)) (aC (sN pTuple [(.ex (sListComp [8] ⟨(sRange1 (aC (sVar 3) aN)), (.nm 8), bYes⟩ [] (sTup (aC (sN pMin [(.ex (sListComp [13] ⟨(sIt (sVar 16)), (.nm 13), bYes⟩ [] (sOp2 pIx2 (.ex (sOp2 pIx2 (.nm 13) (.nm 8))) (.ex (sC (.int 0))))))]) (aC (sN pMax [(.ex (sListComp [13] ⟨(sIt (sVar 16)), (.nm 13), bYes⟩ [] (sOp2 pIx2 (.ex (sOp2 pIx2 (.nm 13) (.nm 8))) (.ex (sC (.int 1))))))]) aN)))))]) aN)))))) (mRet (sC (.bool false))) mNext) (mSeq (mSet 8 (sCallL F__law_take 1 (aC (sN pLen2 [(.nm 16)]) aN))) (mSeq (mSet 21 (sLst (aC (sC .none) (aC (sTup aN) (aC (sN pListC2 [(.nm 16)]) (aC (sOp2 pAdd (.ex (sOp2 pAdd (.ex (sSl (.nm 16) .no (.ex (sVar 8)))) (.ex (sTup (aC (sCallL F__law_bent 1 (aC (sOp2 pIx2 (.nm 16) (.nm 8)) aN)) aN))))) (.ex (sSl (.nm 16) (.ex (sOp2 pAdd (.nm 8) (.ex (sC (.int 1))))) .no))) (aC (sOp2 pAdd (.nm 16) (.ex (sSl (.nm 16) (.ex (sOp1 pNeg (.ex (sC (.int 1))))) .no))) (aC (sOp2 pAdd (.ex (sOp2 pAdd (.ex (sSl (.nm 16) .no (.ex (sVar 8)))) (.ex (sTup (aC (sC .none) aN))))) (.ex (sSl (.nm 16) (.ex (sOp2 pAdd (.nm 8) (.ex (sC (.int 1))))) .no))) aN)))))))) (mSeq (mSet 21 (sOp2 pAdd (.nm 21) (.ex (sLst (aC (sTup (aC (sOp2 pAdd (.ex (sSl (.ex (sOp2 pIx2 (.nm 16) (.ex (sC (.int 0))))) .no (.ex (sC (.int 2))))) (.ex (sOp2 pRep (.ex (sTup (aC (sTup (aC (sC (.int 0)) (aC (sC (.int 1)) aN))) aN))) (.ex (sOp2 pSub (.ex (sC (.int 3))) (.nm 3)))))) (aC (sOp2 pAdd (.ex (sOp2 pIx2 (.nm 16) (.ex (sC (.int 0))))) (.ex (sTup (aC (sTup (aC (sC (.int 0)) (aC (sC (.int 1)) aN))) aN)))) aN))) aN))))) (mSeq (mIf (bVal (sOp2 pGt (.ex (sN pLen2 [(.nm 16)])) (.ex (sC (.int 1))))) (mDrop (sLM opAppend 21 (aC (sOp1 pRev (.nm 16)) aN))) mNext) (mSeq (mIf (bVal (sOp2 pNe (.ex (sListComp [22] ⟨(sIt (sVar 21)), (.nm 22), (bNot (bTru (.ex (sCall F__law_says (aC (sCall F_is_thing (aC (sVar 22) aN)) (aC (sC (.bool false)) aN))))))⟩ [] (sVar 22))) (.ex (sLst aN)))) (mRet (sC (.bool false))) mNext) (mSeq (mSet 23 (sLst (aC (sOp2 pRep (.ex (sTup (aC (sC (.int 4000)) aN))) (.nm 3)) (aC (sOp2 pRep (.ex (sTup (aC (sOp1 pNeg (.ex (sC (.int 4000)))) aN))) (.nm 3)) (aC (sOp2 pAdd (.ex (sTup (aC (sC (.int 4001)) aN))) (.ex (sOp2 pRep (.ex (sTup (aC (sC (.int 0)) aN))) (.ex (sOp2 pSub (.nm 3) (.ex (sC (.int 1)))))))) (aC (sOp2 pRep (.ex (sTup (aC (sC (.int 0)) aN))) (.ex (sOp2 pAdd (.nm 3) (.ex (sC (.int 1)))))) (aC (sOp2 pRep (.ex (sLst (aC (sC (.int 0)) aN))) (.nm 3)) (aC (sOp2 pAdd (.ex (sTup (aC (sC (.bool true)) aN))) (.ex (sOp2 pRep (.ex (sTup (aC (sC (.int 0)) aN))) (.ex (sOp2 pSub (.nm 3) (.ex (sC (.int 1)))))))) (aC (sC .none) aN))))))))) (mIf (bVal (sOp2 pNe (.ex (sListComp [22] ⟨(sIt (sVar 23)), (.nm 22), bYes⟩ [] (sCall F_is_place (aC (sVar 22) (aC (sVar 3) aN))))) (.ex (sOp2 pAdd (.ex (sLst (aC (sC (.bool true)) (aC (sC (.bool true)) aN)))) (.ex (sOp2 pRep (.ex (sLst (aC (sC (.bool false)) aN))) (.ex (sC (.int 5))))))))) (mRet (sC (.bool false))) mNext))))))))))))))))))))))))))))) (mSeq (mSet 24 (sN pTuple [(.ex (sListComp [8] ⟨(sRange1 (aC (sC (.int 8)) aN)), (.nm 8), bYes⟩ [] (sTup (aC (sTup (aC (sVar 8) (aC (sOp2 pAdd (.nm 8) (.ex (sC (.int 1)))) aN))) (aC (sTup (aC (sC (.int 0)) (aC (sC (.int 1)) aN))) aN)))))])) (mSeq (mIf (bOr (bVal (sOp2 pIsNot (.ex (sCall F_is_thing (aC (sVar 24) aN))) (.ex (sC (.bool true))))) (bOr (bVal (sOp2 pIsNot (.ex (sCall F_is_thing (aC (sOp2 pAdd (.nm 24) (.ex (sTup (aC (sTup (aC (sTup (aC (sC (.int 8)) (aC (sC (.int 9)) aN))) (aC (sTup (aC (sC (.int 0)) (aC (sC (.int 1)) aN))) aN))) aN)))) aN))) (.ex (sC (.bool false))))) (bVal (sOp2 pNe (.ex (sListComp [22] ⟨(sIt (sLst (aC (sC (.int 0)) (aC (sC (.int 5)) (aC (sC (.int 6)) (aC (sC (.bool true)) (aC (sC .none) aN))))))), (.nm 22), bYes⟩ [] (sCall F_is_number (aC (sVar 22) (aC (sC (.int 0)) (aC (sC (.int 5)) aN)))))) (.ex (sLst (aC (sC (.bool true)) (aC (sC (.bool true)) (aC (sC (.bool false)) (aC (sC (.bool false)) (aC (sC (.bool false)) aN))))))))))) (mRet (sC (.bool false))) mNext) (mRet (sOp2 pEq (.ex (sListComp [22] ⟨(sIt (sLst (aC (sC (.str "a")) (aC (sC (.str "abcdef")) (aC (sC (.str "")) (aC (sC (.str "abcdefg")) (aC (sC (.str "A")) (aC (sC .none) (aC (sC (.str "a b")) aN))))))))), (.nm 22), bYes⟩ [] (sCall F_is_word (aC (sVar 22) aN)))) (.ex (sOp2 pAdd (.ex (sLst (aC (sC (.bool true)) (aC (sC (.bool true)) aN)))) (.ex (sOp2 pRep (.ex (sLst (aC (sC (.bool false)) aN))) (.ex (sC (.int 5)))))))))))))
noncomputable def F_law : Fn := ofBody 24 m_law
theorem S_law : FnScope N_law ["script"] (fnScope (top 37)) := C8.fnScope_by (by decide +kernel)
theorem ok_law (x : Tx P w K mg base tabs) {f : Addr} {fd : FuncData} {c Pt : Addr} (D : DefC K mg "law" (top 37) (.ref c) f fd) : L2.FnOk P w K mg base C8.CX0 14 f fd ["script"] (dSp ⟨P, w, K⟩ tabs 1 F_law) := by
  refine fno_fn (N := N_law) (k := 13) D S_law rfl fun A outer s H E hr => ?_
  refine pss_cD ?_ ?_
  · exact ps_setD S_law.nd rfl (by first | exact Or.inl rfl | exact Or.inr rfl) hL0n (pe_fnD (ok__law_draws x) hr (by decide) (by first | rfl | decide) (pa_cD (pe_varD (pv 0)) pa_nD rfl) rfl (len_C len_N) rfl) rfl (by first | exact Or.inl rfl | exact Or.inr rfl)
  refine pss_cD ?_ ?_
  · refine ps_forD PassesOwn.never rfl (pi_range1D (by first | rfl | decide) x.b_range (pa_cD pe_iD pa_nD rfl) rfl) (pg_nm S_law.nd rfl (by first | exact Or.inl rfl | exact Or.inr rfl) (by first | exact Or.inl rfl | exact Or.inr rfl) hL0n) ?_
    refine pss_cD ?_ ?_
    · exact ps_setD S_law.nd rfl (by first | exact Or.inl rfl | exact Or.inr rfl) hL0n (pe_opD op_addD pe_iD (pe_fnLD (ok__law_take x) hr (by decide) (by first | rfl | decide) (pv 1) (pa_cD pe_iD pa_nD rfl) (len_C len_N) rfl)) rfl (by first | exact Or.inl rfl | exact Or.inr rfl)
    refine pss_cD ?_ ?_
    · exact ps_asgD (pe_tupD (pa_cD (pe_fnLD (ok__law_box x) hr (by decide) (by first | rfl | decide) (pv 1) (pa_cD (pe_varD (pv 3)) (pa_cD pe_iD (pa_cD pe_iD pa_nD rfl) rfl) rfl) (len_C (len_C (len_C len_N))) rfl) (pa_cD (pe_fnLD (ok__law_box x) hr (by decide) (by first | rfl | decide) (pv 1) (pa_cD (pe_varD (pv 3)) (pa_cD pe_iD (pa_cD pe_iD pa_nD rfl) rfl) rfl) (len_C (len_C (len_C len_N))) rfl) pa_nD rfl) rfl)) (pg_tp rfl rfl (pgs_c rfl (pg_nm S_law.nd rfl (by first | exact Or.inl rfl | exact Or.inr rfl) (by first | exact Or.inl rfl | exact Or.inr rfl) hL0n) (pgs_c rfl (pg_nm S_law.nd rfl (by first | exact Or.inl rfl | exact Or.inr rfl) (by first | exact Or.inl rfl | exact Or.inr rfl) hL0n) pgs_n)) rfl)
    refine pss_cD ?_ ?_
    · refine ps_ifD (pt_cmpD (op_eqDD (Room.units hr)) (nomark _) (pe_fnLD (ok__law_take x) hr (by decide) (by first | rfl | decide) (pv 1) (pa_cD pe_iD pa_nD rfl) (len_C len_N) rfl) pe_iD) ?_ ?_
      · refine pss_cD ?_ ?_
        · exact ps_setD S_law.nd rfl (by first | exact Or.inl rfl | exact Or.inr rfl) hL0n (pe_fnLD (ok__law_take x) hr (by decide) (by first | rfl | decide) (pv 1) (pa_cD (pe_varD (pv 3)) pa_nD rfl) (len_C len_N) rfl) rfl (by first | exact Or.inl rfl | exact Or.inr rfl)
        refine pss_1D ?_
        exact ps_setD S_law.nd rfl (by first | exact Or.inl rfl | exact Or.inr rfl) hL0n (pe_opD op_addD (pe_opD op_addD (pe_slD (pv 5) rfl ⟨_, rfl, (pe_varD (pv 6))⟩) (pe_tupD (pa_cD (pe_tupD (pa_cD (pe_ixD (ix_D2 (Room.units hr)) (by intro _ _; rfl) (pe_ixD (ix_D2 (Room.units hr)) (by intro _ _; rfl) (pv 4) (pv 6)) pe_iD) (pa_cD (pe_opD op_addD (pe_ixD (ix_D2 (Room.units hr)) (by intro _ _; rfl) (pe_ixD (ix_D2 (Room.units hr)) (by intro _ _; rfl) (pv 4) (pv 6)) pe_iD) pe_iD) pa_nD rfl) rfl)) pa_nD rfl))) (pe_slD (pv 5) ⟨_, rfl, (pe_opD op_addD (pv 6) pe_iD)⟩ rfl)) rfl (by first | exact Or.inl rfl | exact Or.inr rfl)
      · exact pss_nD
    refine pss_cD ?_ ?_
    · refine ps_ifD (PW.pt (pw_orD (pt_notD (pt_truD (pe_fnD (ok__law_says x) hr (by decide) (by first | rfl | decide) (pa_cD (pe_fnD (ok_is_box x) hr (by decide) (by first | rfl | decide) (pa_cD (pe_varD (pv 4)) pa_nD rfl) rfl (len_C len_N) rfl) (pa_cD pe_bD' pa_nD rfl) rfl) rfl (len_C (len_C len_N)) rfl))) (pw_or1D (pt_notD (pt_truD (pe_fnD (ok__law_says x) hr (by decide) (by first | rfl | decide) (pa_cD (pe_fnD (ok_is_box x) hr (by decide) (by first | rfl | decide) (pa_cD (pe_fnLD (ok__law_bent x) hr (by decide) (by first | rfl | decide) (pv 1) (pa_cD (pe_varD (pv 4)) pa_nD rfl) (len_C len_N) rfl) pa_nD rfl) rfl (len_C len_N) rfl) (pa_cD pe_bD' pa_nD rfl) rfl) rfl (len_C (len_C len_N)) rfl)))))) ?_ ?_
      · refine pss_1D ?_
        exact ps_retD pe_bD'
      · exact pss_nD
    refine pss_cD ?_ ?_
    · exact ps_setD S_law.nd rfl (by first | exact Or.inl rfl | exact Or.inr rfl) hL0n (pe_tD cr_tuple bt_tuple (by first | rfl | decide) x.b_tuple (POs.cons rfl (pe_lcN (own := [("k", 8)]) (LcOk.mk rfl S_law.nd (pi_range1D (by first | rfl | decide) x.b_range (pa_cD (pe_varD (pv 3)) pa_nD rfl) rfl) (blk_by (by kernel_rfl)) (fun _ _ _ _ _ => ⟨rfl, (pg_nm S_law.nd rfl (by first | exact Or.inl rfl | exact Or.inr rfl) (by first | exact Or.inl rfl | exact Or.inr rfl) hL0n), pts_nD⟩) (fun _ _ _ _ _ => ClIns.nil) (fun _ _ _ _ _ => (pe_tupD (pa_cD (pe_bD (cr_maxD rfl) bt_max (by first | rfl | decide) x.b_max (POs.cons rfl (pe_ixD (ix_D2 (Room.units hr)) (by intro _ _; rfl) (pe_ixD (ix_D2 (Room.units hr)) (by intro _ _; rfl) (pv 4) (pv 8)) pe_iD) (POs.cons rfl (pe_ixD (ix_D2 (Room.units hr)) (by intro _ _; rfl) (pe_ixD (ix_D2 (Room.units hr)) (by intro _ _; rfl) (pv 5) (pv 8)) pe_iD) POs.nil)) rfl) (pa_cD (pe_bD (cr_minD rfl) bt_min (by first | rfl | decide) x.b_min (POs.cons rfl (pe_ixD (ix_D2 (Room.units hr)) (by intro _ _; rfl) (pe_ixD (ix_D2 (Room.units hr)) (by intro _ _; rfl) (pv 4) (pv 8)) pe_iD) (POs.cons rfl (pe_ixD (ix_D2 (Room.units hr)) (by intro _ _; rfl) (pe_ixD (ix_D2 (Room.units hr)) (by intro _ _; rfl) (pv 5) (pv 8)) pe_iD) POs.nil)) rfl) pa_nD rfl) rfl))) (fun _ => rfl) (show List.Nodup [8] from by decide) (show ∀ i ∈ ([8] : List Nat), i ∈ ([8] : List Nat) from by decide) hL0m)) POs.nil) rfl) rfl (by first | exact Or.inl rfl | exact Or.inr rfl)
    refine pss_cD ?_ ?_
    · exact ps_setD S_law.nd rfl (by first | exact Or.inl rfl | exact Or.inr rfl) hL0n (pe_fnD (ok__law_clash x) hr (by decide) (by first | rfl | decide) (pa_cD (pe_varD (pv 4)) (pa_cD (pe_varD (pv 5)) pa_nD rfl) rfl) rfl (len_C (len_C len_N)) rfl) rfl (by first | exact Or.inl rfl | exact Or.inr rfl)
    refine pss_cD ?_ ?_
    · refine ps_ifD (PW.pt (pw_orD (pt_notD (pt_truD (pe_fnD (ok__law_says x) hr (by decide) (by first | rfl | decide) (pa_cD (pe_fnD (ok_clash x) hr (by decide) (by first | rfl | decide) (pa_cD (pe_varD (pv 4)) (pa_cD (pe_varD (pv 5)) pa_nD rfl) rfl) rfl (len_C (len_C len_N)) rfl) (pa_cD (pe_varD (pv 9)) pa_nD rfl) rfl) rfl (len_C (len_C len_N)) rfl))) (pw_orD (pt_notD (pt_truD (pe_fnD (ok__law_says x) hr (by decide) (by first | rfl | decide) (pa_cD (pe_fnD (ok_clash x) hr (by decide) (by first | rfl | decide) (pa_cD (pe_varD (pv 5)) (pa_cD (pe_varD (pv 4)) pa_nD rfl) rfl) rfl (len_C (len_C len_N)) rfl) (pa_cD (pe_varD (pv 9)) pa_nD rfl) rfl) rfl (len_C (len_C len_N)) rfl))) (pw_or1D (pt_notD (pt_truD (pe_fnD (ok__law_alike x) hr (by decide) (by first | rfl | decide) (pa_cD (pe_fnD (ok_shared x) hr (by decide) (by first | rfl | decide) (pa_cD (pe_varD (pv 4)) (pa_cD (pe_varD (pv 5)) pa_nD rfl) rfl) rfl (len_C (len_C len_N)) rfl) (pa_cD (pe_ifD (pt_truD (pv 9)) (pe_varD (pv 7)) pe_nD) pa_nD rfl) rfl) rfl (len_C (len_C len_N)) rfl))))))) ?_ ?_
      · refine pss_1D ?_
        exact ps_retD pe_bD'
      · exact pss_nD
    refine pss_cD ?_ ?_
    · exact ps_setD S_law.nd rfl (by first | exact Or.inl rfl | exact Or.inr rfl) hL0n (pe_tD cr_tuple bt_tuple (by first | rfl | decide) x.b_tuple (POs.cons rfl (pe_lcN (own := [("axis", 6)]) (LcOk.mk rfl S_law.nd (pi_range1D (by first | rfl | decide) x.b_range (pa_cD (pe_varD (pv 3)) pa_nD rfl) rfl) (blk_by (by kernel_rfl)) (fun _ _ _ _ _ => ⟨rfl, (pg_nm S_law.nd rfl (by first | exact Or.inl rfl | exact Or.inr rfl) (by first | exact Or.inl rfl | exact Or.inr rfl) hL0n), pts_nD⟩) (fun _ _ _ _ _ => ClIns.nil) (fun _ _ _ _ _ => (pe_opD op_subD (pe_fnLD (ok__law_take x) hr (by decide) (by first | rfl | decide) (pv 1) (pa_cD pe_iD pa_nD rfl) (len_C len_N) rfl) pe_iD)) (fun _ => rfl) (show List.Nodup [6] from by decide) (show ∀ i ∈ ([6] : List Nat), i ∈ ([6] : List Nat) from by decide) hL0m)) POs.nil) rfl) rfl (by first | exact Or.inl rfl | exact Or.inr rfl)
    refine pss_cD ?_ ?_
    · exact ps_setD S_law.nd rfl (by first | exact Or.inl rfl | exact Or.inr rfl) hL0n (pe_tD cr_tuple bt_tuple (by first | rfl | decide) x.b_tuple (POs.cons rfl (pe_lcN (own := [("k", 8)]) (LcOk.mk rfl S_law.nd (pi_range1D (by first | rfl | decide) x.b_range (pa_cD (pe_varD (pv 3)) pa_nD rfl) rfl) (blk_by (by kernel_rfl)) (fun _ _ _ _ _ => ⟨rfl, (pg_nm S_law.nd rfl (by first | exact Or.inl rfl | exact Or.inr rfl) (by first | exact Or.inl rfl | exact Or.inr rfl) hL0n), pts_nD⟩) (fun _ _ _ _ _ => ClIns.nil) (fun _ _ _ _ _ => (pe_tupD (pa_cD (pe_opD op_addD (pe_ixD (ix_D2 (Room.units hr)) (by intro _ _; rfl) (pe_ixD (ix_D2 (Room.units hr)) (by intro _ _; rfl) (pv 4) (pv 8)) pe_iD) (pe_ixD (ix_D2 (Room.units hr)) (by intro _ _; rfl) (pv 10) (pv 8))) (pa_cD (pe_opD op_addD (pe_ixD (ix_D2 (Room.units hr)) (by intro _ _; rfl) (pe_ixD (ix_D2 (Room.units hr)) (by intro _ _; rfl) (pv 4) (pv 8)) pe_iD) (pe_ixD (ix_D2 (Room.units hr)) (by intro _ _; rfl) (pv 10) (pv 8))) pa_nD rfl) rfl))) (fun _ => rfl) (show List.Nodup [8] from by decide) (show ∀ i ∈ ([8] : List Nat), i ∈ ([8] : List Nat) from by decide) hL0m)) POs.nil) rfl) rfl (by first | exact Or.inl rfl | exact Or.inr rfl)
    refine pss_cD ?_ ?_
    · refine ps_ifD (PW.pt (pw_orD (pt_notD (pt_truD (pe_fnD (ok__law_alike x) hr (by decide) (by first | rfl | decide) (pa_cD (pe_fnD (ok_shifted x) hr (by decide) (by first | rfl | decide) (pa_cD (pe_varD (pv 4)) (pa_cD (pe_varD (pv 10)) pa_nD rfl) rfl) rfl (len_C (len_C len_N)) rfl) (pa_cD (pe_varD (pv 11)) pa_nD rfl) rfl) rfl (len_C (len_C len_N)) rfl))) (pw_orD (pt_notD (pt_truD (pe_fnD (ok__law_says x) hr (by decide) (by first | rfl | decide) (pa_cD (pe_fnD (ok_holds x) hr (by decide) (by first | rfl | decide) (pa_cD (pe_varD (pv 4)) (pa_cD (pe_varD (pv 10)) pa_nD rfl) rfl) rfl (len_C (len_C len_N)) rfl) (pa_cD (pe_fnD (ok__law_within x) hr (by decide) (by first | rfl | decide) (pa_cD (pe_varD (pv 4)) (pa_cD (pe_varD (pv 10)) pa_nD rfl) rfl) rfl (len_C (len_C len_N)) rfl) pa_nD rfl) rfl) rfl (len_C (len_C len_N)) rfl))) (pw_or1D (pt_cmpD (op_neDD (Room.units hr)) (nomark _) (pe_fnD (ok_room_of x) hr (by decide) (by first | rfl | decide) (pa_cD (pe_varD (pv 4)) pa_nD rfl) rfl (len_C len_N) rfl) (pe_bD cr_len2 bt_len (by first | rfl | decide) x.b_len (POs.cons rfl (pe_fnD (ok__law_units x) hr (by decide) (by first | rfl | decide) (pa_cD (pe_lstD (pa_cD (pe_varD (pv 4)) pa_nD rfl)) pa_nD rfl) rfl (len_C len_N) rfl) POs.nil) rfl)))))) ?_ ?_
      · refine pss_1D ?_
        exact ps_retD pe_bD'
      · exact pss_nD
    refine pss_cD ?_ ?_
    · exact ps_setD S_law.nd rfl (by first | exact Or.inl rfl | exact Or.inr rfl) hL0n (pe_fnD (ok_without x) hr (by decide) (by first | rfl | decide) (pa_cD (pe_varD (pv 4)) (pa_cD (pe_varD (pv 5)) pa_nD rfl) rfl) rfl (len_C (len_C len_N)) rfl) rfl (by first | exact Or.inl rfl | exact Or.inr rfl)
    refine pss_cD ?_ ?_
    · refine ps_ifD (PW.pt (pw_orD (pt_cmpD (op_neDD (Room.units hr)) (nomark _) (pe_lcN (own := [("box", 13)]) (LcOk.mk rfl S_law.nd (pi_D (pe_varD (pv 12))) (blk_by (by kernel_rfl)) (fun _ _ _ _ _ => ⟨rfl, (pg_nm S_law.nd rfl (by first | exact Or.inl rfl | exact Or.inr rfl) (by first | exact Or.inl rfl | exact Or.inr rfl) hL0n), (pts_1D (pt_truD (pe_fnD (ok__law_clash x) hr (by decide) (by first | rfl | decide) (pa_cD (pe_varD (pv 13)) (pa_cD (pe_varD (pv 5)) pa_nD rfl) rfl) rfl (len_C (len_C len_N)) rfl)))⟩) (fun _ _ _ _ _ => ClIns.nil) (fun _ _ _ _ _ => (pe_varD (pv 13))) (fun _ => rfl) (show List.Nodup [13] from by decide) (show ∀ i ∈ ([13] : List Nat), i ∈ ([13] : List Nat) from by decide) hL0m)) (pe_lstD pa_nD)) (pw_or1D (pt_cmpD (op_neDD (Room.units hr)) (nomark _) (pe_lcN (own := [("k", 8)]) (LcOk.mk rfl S_law.nd (pi_range1D (by first | rfl | decide) x.b_range (pa_cD (pe_bD cr_len2 bt_len (by first | rfl | decide) x.b_len (POs.cons rfl (pv 12) POs.nil) rfl) pa_nD rfl) rfl) (blk_by (by kernel_rfl)) (fun _ _ _ _ _ => ⟨rfl, (pg_nm S_law.nd rfl (by first | exact Or.inl rfl | exact Or.inr rfl) (by first | exact Or.inl rfl | exact Or.inr rfl) hL0n), (pts_1D (pt_cmpD (op_neDD (Room.units hr)) (nomark _) (pe_lcN (own := [("j", 14)]) (LcOk.mk rfl S_law.nd (pi_range1D (by first | rfl | decide) x.b_range (pa_cD (pe_varD (pv 8)) pa_nD rfl) rfl) (blk_by (by kernel_rfl)) (fun _ _ _ _ _ => ⟨rfl, (pg_nm S_law.nd rfl (by first | exact Or.inl rfl | exact Or.inr rfl) (by first | exact Or.inl rfl | exact Or.inr rfl) hL0n), (pts_1D (pt_truD (pe_fnD (ok__law_clash x) hr (by decide) (by first | rfl | decide) (pa_cD (pe_ixD (ix_D2 (Room.units hr)) (by intro _ _; rfl) (pv 12) (pv 14)) (pa_cD (pe_ixD (ix_D2 (Room.units hr)) (by intro _ _; rfl) (pv 12) (pv 8)) pa_nD rfl) rfl) rfl (len_C (len_C len_N)) rfl)))⟩) (fun _ _ _ _ _ => ClIns.nil) (fun _ _ _ _ _ => (pe_varD (pv 14))) (fun _ => rfl) (show List.Nodup [14] from by decide) (show ∀ i ∈ ([14] : List Nat), i ∈ ([14] : List Nat) from by decide) hL0m)) (pe_lstD pa_nD)))⟩) (fun _ _ _ _ _ => ClIns.nil) (fun _ _ _ _ _ => (pe_varD (pv 8))) (fun _ => rfl) (show List.Nodup [8] from by decide) (show ∀ i ∈ ([8] : List Nat), i ∈ ([8] : List Nat) from by decide) hL0m)) (pe_lstD pa_nD))))) ?_ ?_
      · refine pss_1D ?_
        exact ps_retD pe_bD'
      · exact pss_nD
    refine pss_cD ?_ ?_
    · refine ps_ifD (pt_cmpD (op_neDD (Room.units hr)) (nomark _) (pe_bD (cr_sortedD (Room.units hr)) bt_sorted (by first | rfl | decide) x.b_sorted (POs.cons rfl (pe_tD (cr_list2 rfl) bt_list (by first | rfl | decide) x.b_list (POs.cons rfl (pe_fnD (ok__law_units x) hr (by decide) (by first | rfl | decide) (pa_cD (pe_varD (pv 12)) pa_nD rfl) rfl (len_C len_N) rfl) POs.nil) rfl) POs.nil) rfl) (pe_bD (cr_sortedD (Room.units hr)) bt_sorted (by first | rfl | decide) x.b_sorted (POs.cons rfl (pe_lcN (own := [("unit", 15)]) (LcOk.mk rfl S_law.nd (pi_K (pe_fnD (ok__law_units x) hr (by decide) (by first | rfl | decide) (pa_cD (pe_lstD (pa_cD (pe_varD (pv 4)) pa_nD rfl)) pa_nD rfl) rfl (len_C len_N) rfl)) (blk_by (by kernel_rfl)) (fun _ _ _ _ _ => ⟨rfl, (pg_nm S_law.nd rfl (by first | exact Or.inl rfl | exact Or.inr rfl) (by first | exact Or.inl rfl | exact Or.inr rfl) hL0n), (pts_1D (pt_cmpD (op_notIn2 (Room.units hr)) (by with_unfolding_all rfl) (pv 15) (pe_fnD (ok__law_units x) hr (by decide) (by first | rfl | decide) (pa_cD (pe_lstD (pa_cD (pe_varD (pv 5)) pa_nD rfl)) pa_nD rfl) rfl (len_C len_N) rfl)))⟩) (fun _ _ _ _ _ => ClIns.nil) (fun _ _ _ _ _ => (pe_varD (pv 15))) (fun _ => rfl) (show List.Nodup [15] from by decide) (show ∀ i ∈ ([15] : List Nat), i ∈ ([15] : List Nat) from by decide) hL0m)) POs.nil) rfl)) ?_ ?_
      · refine pss_1D ?_
        exact ps_retD pe_bD'
      · exact pss_nD
    refine pss_cD ?_ ?_
    · exact ps_asgD (pe_tupD (pa_cD (pe_fnLD (ok__law_thing x) hr (by decide) (by first | rfl | decide) (pv 1) (pa_cD (pe_varD (pv 3)) (pa_cD pe_iD (pa_cD pe_iD (pa_cD pe_iD pa_nD rfl) rfl) rfl) rfl) (len_C (len_C (len_C (len_C len_N)))) rfl) (pa_cD (pe_fnLD (ok__law_thing x) hr (by decide) (by first | rfl | decide) (pv 1) (pa_cD (pe_varD (pv 3)) (pa_cD pe_iD (pa_cD pe_iD (pa_cD pe_iD pa_nD rfl) rfl) rfl) rfl) (len_C (len_C (len_C (len_C len_N)))) rfl) pa_nD rfl) rfl)) (pg_tp rfl rfl (pgs_c rfl (pg_nm S_law.nd rfl (by first | exact Or.inl rfl | exact Or.inr rfl) (by first | exact Or.inl rfl | exact Or.inr rfl) hL0n) (pgs_c rfl (pg_nm S_law.nd rfl (by first | exact Or.inl rfl | exact Or.inr rfl) (by first | exact Or.inl rfl | exact Or.inr rfl) hL0n) pgs_n)) rfl)
    refine pss_cD ?_ ?_
    · refine ps_ifD (PW.pt (pw_orD (pt_notD (pt_truD (pe_fnD (ok__law_says x) hr (by decide) (by first | rfl | decide) (pa_cD (pe_fnD (ok_is_thing x) hr (by decide) (by first | rfl | decide) (pa_cD (pe_varD (pv 16)) pa_nD rfl) rfl (len_C len_N) rfl) (pa_cD pe_bD' pa_nD rfl) rfl) rfl (len_C (len_C len_N)) rfl))) (pw_orD (pt_cmpD (op_neDD (Room.units hr)) (nomark _) (pe_fnD (ok_dimension x) hr (by decide) (by first | rfl | decide) (pa_cD (pe_varD (pv 16)) pa_nD rfl) rfl (len_C len_N) rfl) (pv 3)) (pw_or1D (pt_notD (pt_truD (pe_fnD (ok__law_alike x) hr (by decide) (by first | rfl | decide) (pa_cD (pe_fnD (ok_at x) hr (by decide) (by first | rfl | decide) (pa_cD (pe_varD (pv 16)) (pa_cD (pe_varD (pv 10)) pa_nD rfl) rfl) rfl (len_C (len_C len_N)) rfl) (pa_cD (pe_tD cr_tuple bt_tuple (by first | rfl | decide) x.b_tuple (POs.cons rfl (pe_lcN (own := [("box", 13)]) (LcOk.mk rfl S_law.nd (pi_D (pe_varD (pv 16))) (blk_by (by kernel_rfl)) (fun _ _ _ _ _ => ⟨rfl, (pg_nm S_law.nd rfl (by first | exact Or.inl rfl | exact Or.inr rfl) (by first | exact Or.inl rfl | exact Or.inr rfl) hL0n), pts_nD⟩) (fun _ _ _ _ _ => ClIns.nil) (fun _ _ _ _ _ => (pe_fnD (ok_shifted x) hr (by decide) (by first | rfl | decide) (pa_cD (pe_varD (pv 13)) (pa_cD (pe_varD (pv 10)) pa_nD rfl) rfl) rfl (len_C (len_C len_N)) rfl)) (fun _ => rfl) (show List.Nodup [13] from by decide) (show ∀ i ∈ ([13] : List Nat), i ∈ ([13] : List Nat) from by decide) hL0m)) POs.nil) rfl) pa_nD rfl) rfl) rfl (len_C (len_C len_N)) rfl))))))) ?_ ?_
      · refine pss_1D ?_
        exact ps_retD pe_bD'
      · exact pss_nD
    refine pss_cD ?_ ?_
    · refine ps_ifD (pt_notD (pt_truD (pe_fnD (ok__law_says x) hr (by decide) (by first | rfl | decide) (pa_cD (pe_fnD (ok_clashes x) hr (by decide) (by first | rfl | decide) (pa_cD (pe_varD (pv 16)) (pa_cD (pe_varD (pv 17)) pa_nD rfl) rfl) rfl (len_C (len_C len_N)) rfl) (pa_cD (pe_cmpD (op_neDD (Room.units hr)) (nomark _) (pe_lcN (own := [("box", 13)]) (LcOk.mk rfl S_law.nd (pi_D (pe_varD (pv 16))) (blk_by (by kernel_rfl)) (fun _ _ _ _ _ => ⟨rfl, (pg_nm S_law.nd rfl (by first | exact Or.inl rfl | exact Or.inr rfl) (by first | exact Or.inl rfl | exact Or.inr rfl) hL0n), (pts_1D (pt_cmpD (op_neDD (Room.units hr)) (nomark _) (pe_lcN (own := [("wall", 18)]) (LcOk.mk rfl S_law.nd (pi_D (pe_varD (pv 17))) (blk_by (by kernel_rfl)) (fun _ _ _ _ _ => ⟨rfl, (pg_nm S_law.nd rfl (by first | exact Or.inl rfl | exact Or.inr rfl) (by first | exact Or.inl rfl | exact Or.inr rfl) hL0n), (pts_1D (pt_truD (pe_fnD (ok__law_clash x) hr (by decide) (by first | rfl | decide) (pa_cD (pe_varD (pv 13)) (pa_cD (pe_varD (pv 18)) pa_nD rfl) rfl) rfl (len_C (len_C len_N)) rfl)))⟩) (fun _ _ _ _ _ => ClIns.nil) (fun _ _ _ _ _ => (pe_varD (pv 18))) (fun _ => rfl) (show List.Nodup [18] from by decide) (show ∀ i ∈ ([18] : List Nat), i ∈ ([18] : List Nat) from by decide) hL0m)) (pe_lstD pa_nD)))⟩) (fun _ _ _ _ _ => ClIns.nil) (fun _ _ _ _ _ => (pe_varD (pv 13))) (fun _ => rfl) (show List.Nodup [13] from by decide) (show ∀ i ∈ ([13] : List Nat), i ∈ ([13] : List Nat) from by decide) hL0m)) (pe_lstD pa_nD)) pa_nD rfl) rfl) rfl (len_C (len_C len_N)) rfl))) ?_ ?_
      · refine pss_1D ?_
        exact ps_retD pe_bD'
      · exact pss_nD
    refine pss_cD ?_ ?_
    · refine ps_ifD (PW.pt (pw_orD (pt_cmpD (op_neDD (Room.units hr)) (nomark _) (pe_fnD (ok_volume x) hr (by decide) (by first | rfl | decide) (pa_cD (pe_varD (pv 16)) pa_nD rfl) rfl (len_C len_N) rfl) (pe_bD cr_len2 bt_len (by first | rfl | decide) x.b_len (POs.cons rfl (pe_fnD (ok__law_units x) hr (by decide) (by first | rfl | decide) (pa_cD (pe_varD (pv 16)) pa_nD rfl) rfl (len_C len_N) rfl) POs.nil) rfl)) (pw_or1D (pt_cmpD (op_neDD (Room.units hr)) (nomark _) (pe_fnD (ok_volume x) hr (by decide) (by first | rfl | decide) (pa_cD (pe_opD op_addD (pe_tD (cr_list2 rfl) bt_list (by first | rfl | decide) x.b_list (POs.cons rfl (pv 16) POs.nil) rfl) (pe_tD (cr_list2 rfl) bt_list (by first | rfl | decide) x.b_list (POs.cons rfl (pv 17) POs.nil) rfl)) pa_nD rfl) rfl (len_C len_N) rfl) (pe_bD cr_len2 bt_len (by first | rfl | decide) x.b_len (POs.cons rfl (pe_fnD (ok__law_units x) hr (by decide) (by first | rfl | decide) (pa_cD (pe_opD op_addD (pv 16) (pv 17)) pa_nD rfl) rfl (len_C len_N) rfl) POs.nil) rfl))))) ?_ ?_
      · refine pss_1D ?_
        exact ps_retD pe_bD'
      · exact pss_nD
    refine pss_cD ?_ ?_
    · exact ps_setD S_law.nd rfl (by first | exact Or.inl rfl | exact Or.inr rfl) hL0n (pe_ifD (pt_cmpD (op_neDD (Room.units hr)) (nomark _) (pv 12) (pe_lstD pa_nD)) (pe_opD op_addD (pe_tD cr_tuple bt_tuple (by first | rfl | decide) x.b_tuple (POs.cons rfl (pv 12) POs.nil) rfl) (pv 17)) (pe_varD (pv 17))) rfl (by first | exact Or.inl rfl | exact Or.inr rfl)
    refine pss_cD ?_ ?_
    · exact ps_setD S_law.nd rfl (by first | exact Or.inl rfl | exact Or.inr rfl) hL0n (pe_cmpD (op_eqDD (Room.units hr)) (nomark _) (pe_bD (cr_sortedD (Room.units hr)) bt_sorted (by first | rfl | decide) x.b_sorted (POs.cons rfl (pe_tD (cr_list2 rfl) bt_list (by first | rfl | decide) x.b_list (POs.cons rfl (pe_fnD (ok__law_units x) hr (by decide) (by first | rfl | decide) (pa_cD (pe_opD op_addD (pv 19) (pe_tupD (pa_cD (pe_varD (pv 5)) pa_nD rfl))) pa_nD rfl) rfl (len_C len_N) rfl) POs.nil) rfl) POs.nil) rfl) (pe_bD (cr_sortedD (Room.units hr)) bt_sorted (by first | rfl | decide) x.b_sorted (POs.cons rfl (pe_tD (cr_list2 rfl) bt_list (by first | rfl | decide) x.b_list (POs.cons rfl (pe_fnD (ok__law_units x) hr (by decide) (by first | rfl | decide) (pa_cD (pe_opD op_addD (pe_tupD (pa_cD (pe_varD (pv 4)) (pa_cD (pe_varD (pv 5)) pa_nD rfl) rfl)) (pv 17)) pa_nD rfl) rfl (len_C len_N) rfl) POs.nil) rfl) POs.nil) rfl)) rfl (by first | exact Or.inl rfl | exact Or.inr rfl)
    refine pss_cD ?_ ?_
    · refine ps_ifD (PW.pt (pw_orD (pt_notD (pt_truD (pe_fnD (ok__law_says x) hr (by decide) (by first | rfl | decide) (pa_cD (pe_fnD (ok_same_room x) hr (by decide) (by first | rfl | decide) (pa_cD (pe_opD op_addD (pv 19) (pe_tupD (pa_cD (pe_varD (pv 5)) pa_nD rfl))) (pa_cD (pe_opD op_addD (pe_tupD (pa_cD (pe_varD (pv 4)) (pa_cD (pe_varD (pv 5)) pa_nD rfl) rfl)) (pv 17)) pa_nD rfl) rfl) rfl (len_C (len_C len_N)) rfl) (pa_cD (pe_varD (pv 20)) pa_nD rfl) rfl) rfl (len_C (len_C len_N)) rfl))) (pw_or1D (pt_notD (pt_truD (pe_fnD (ok__law_says x) hr (by decide) (by first | rfl | decide) (pa_cD (pe_fnD (ok_same_room x) hr (by decide) (by first | rfl | decide) (pa_cD (pe_varD (pv 16)) (pa_cD (pe_varD (pv 17)) pa_nD rfl) rfl) rfl (len_C (len_C len_N)) rfl) (pa_cD (pe_cmpD (op_eqDD (Room.units hr)) (nomark _) (pe_bD (cr_sortedD (Room.units hr)) bt_sorted (by first | rfl | decide) x.b_sorted (POs.cons rfl (pe_tD (cr_list2 rfl) bt_list (by first | rfl | decide) x.b_list (POs.cons rfl (pe_fnD (ok__law_units x) hr (by decide) (by first | rfl | decide) (pa_cD (pe_varD (pv 16)) pa_nD rfl) rfl (len_C len_N) rfl) POs.nil) rfl) POs.nil) rfl) (pe_bD (cr_sortedD (Room.units hr)) bt_sorted (by first | rfl | decide) x.b_sorted (POs.cons rfl (pe_tD (cr_list2 rfl) bt_list (by first | rfl | decide) x.b_list (POs.cons rfl (pe_fnD (ok__law_units x) hr (by decide) (by first | rfl | decide) (pa_cD (pe_varD (pv 17)) pa_nD rfl) rfl (len_C len_N) rfl) POs.nil) rfl) POs.nil) rfl)) pa_nD rfl) rfl) rfl (len_C (len_C len_N)) rfl)))))) ?_ ?_
      · refine pss_1D ?_
        exact ps_retD pe_bD'
      · exact pss_nD
    refine pss_cD ?_ ?_
    · refine ps_ifD (pt_notD (pt_truD (pe_fnD (ok__law_alike x) hr (by decide) (by first | rfl | decide) (pa_cD (pe_fnD (ok_hull x) hr (by decide) (by first | rfl | decide) (pa_cD (pe_varD (pv 16)) pa_nD rfl) rfl (len_C len_N) rfl) (pa_cD (pe_tD cr_tuple bt_tuple (by first | rfl | decide) x.b_tuple (POs.cons rfl (pe_lcN (own := [("k", 8)]) (LcOk.mk rfl S_law.nd (pi_range1D (by first | rfl | decide) x.b_range (pa_cD (pe_varD (pv 3)) pa_nD rfl) rfl) (blk_by (by kernel_rfl)) (fun _ _ _ _ _ => ⟨rfl, (pg_nm S_law.nd rfl (by first | exact Or.inl rfl | exact Or.inr rfl) (by first | exact Or.inl rfl | exact Or.inr rfl) hL0n), pts_nD⟩) (fun _ _ _ _ _ => ClIns.nil) (fun _ _ _ _ _ => (pe_tupD (pa_cD (pe_bD (cr_minD rfl) bt_min (by first | rfl | decide) x.b_min (POs.cons rfl (pe_lcN (own := [("box", 13)]) (LcOk.mk rfl S_law.nd (pi_D (pe_varD (pv 16))) (blk_by (by kernel_rfl)) (fun _ _ _ _ _ => ⟨rfl, (pg_nm S_law.nd rfl (by first | exact Or.inl rfl | exact Or.inr rfl) (by first | exact Or.inl rfl | exact Or.inr rfl) hL0n), pts_nD⟩) (fun _ _ _ _ _ => ClIns.nil) (fun _ _ _ _ _ => (pe_ixD (ix_D2 (Room.units hr)) (by intro _ _; rfl) (pe_ixD (ix_D2 (Room.units hr)) (by intro _ _; rfl) (pv 13) (pv 8)) pe_iD)) (fun _ => rfl) (show List.Nodup [13] from by decide) (show ∀ i ∈ ([13] : List Nat), i ∈ ([13] : List Nat) from by decide) hL0m)) POs.nil) rfl) (pa_cD (pe_bD (cr_maxD rfl) bt_max (by first | rfl | decide) x.b_max (POs.cons rfl (pe_lcN (own := [("box", 13)]) (LcOk.mk rfl S_law.nd (pi_D (pe_varD (pv 16))) (blk_by (by kernel_rfl)) (fun _ _ _ _ _ => ⟨rfl, (pg_nm S_law.nd rfl (by first | exact Or.inl rfl | exact Or.inr rfl) (by first | exact Or.inl rfl | exact Or.inr rfl) hL0n), pts_nD⟩) (fun _ _ _ _ _ => ClIns.nil) (fun _ _ _ _ _ => (pe_ixD (ix_D2 (Room.units hr)) (by intro _ _; rfl) (pe_ixD (ix_D2 (Room.units hr)) (by intro _ _; rfl) (pv 13) (pv 8)) pe_iD)) (fun _ => rfl) (show List.Nodup [13] from by decide) (show ∀ i ∈ ([13] : List Nat), i ∈ ([13] : List Nat) from by decide) hL0m)) POs.nil) rfl) pa_nD rfl) rfl))) (fun _ => rfl) (show List.Nodup [8] from by decide) (show ∀ i ∈ ([8] : List Nat), i ∈ ([8] : List Nat) from by decide) hL0m)) POs.nil) rfl) pa_nD rfl) rfl) rfl (len_C (len_C len_N)) rfl))) ?_ ?_
      · refine pss_1D ?_
        exact ps_retD pe_bD'
      · exact pss_nD
    refine pss_cD ?_ ?_
    · exact ps_setD S_law.nd rfl (by first | exact Or.inl rfl | exact Or.inr rfl) hL0n (pe_fnLD (ok__law_take x) hr (by decide) (by first | rfl | decide) (pv 1) (pa_cD (pe_bD cr_len2 bt_len (by first | rfl | decide) x.b_len (POs.cons rfl (pv 16) POs.nil) rfl) pa_nD rfl) (len_C len_N) rfl) rfl (by first | exact Or.inl rfl | exact Or.inr rfl)
    refine pss_cD ?_ ?_
    · exact ps_setD S_law.nd rfl (by first | exact Or.inl rfl | exact Or.inr rfl) hL0n (pe_lstD (pa_cD pe_nD (pa_cD (pe_tupD pa_nD) (pa_cD (pe_tD (cr_list2 rfl) bt_list (by first | rfl | decide) x.b_list (POs.cons rfl (pv 16) POs.nil) rfl) (pa_cD (pe_opD op_addD (pe_opD op_addD (pe_slD (pv 16) rfl ⟨_, rfl, (pe_varD (pv 8))⟩) (pe_tupD (pa_cD (pe_fnLD (ok__law_bent x) hr (by decide) (by first | rfl | decide) (pv 1) (pa_cD (pe_ixD (ix_D2 (Room.units hr)) (by intro _ _; rfl) (pv 16) (pv 8)) pa_nD rfl) (len_C len_N) rfl) pa_nD rfl))) (pe_slD (pv 16) ⟨_, rfl, (pe_opD op_addD (pv 8) pe_iD)⟩ rfl)) (pa_cD (pe_opD op_addD (pv 16) (pe_slD (pv 16) ⟨_, rfl, (pe_unD un_negD pe_iD)⟩ rfl)) (pa_cD (pe_opD op_addD (pe_opD op_addD (pe_slD (pv 16) rfl ⟨_, rfl, (pe_varD (pv 8))⟩) (pe_tupD (pa_cD pe_nD pa_nD rfl))) (pe_slD (pv 16) ⟨_, rfl, (pe_opD op_addD (pv 8) pe_iD)⟩ rfl)) pa_nD rfl) rfl) rfl) rfl) rfl) rfl)) rfl (by first | exact Or.inl rfl | exact Or.inr rfl)
    refine pss_cD ?_ ?_
    · exact ps_setD S_law.nd rfl (by first | exact Or.inl rfl | exact Or.inr rfl) hL0n (pe_opD op_addD (pv 21) (pe_lstD (pa_cD (pe_tupD (pa_cD (pe_opD op_addD (pe_slD (pe_ixD (ix_D2 (Room.units hr)) (by intro _ _; rfl) (pv 16) pe_iD) rfl ⟨_, rfl, pe_iD⟩) (pe_opD op_mulD (pe_tupD (pa_cD (pe_tupD (pa_cD pe_iD (pa_cD pe_iD pa_nD rfl) rfl)) pa_nD rfl)) (pe_opD op_subD pe_iD (pv 3)))) (pa_cD (pe_opD op_addD (pe_ixD (ix_D2 (Room.units hr)) (by intro _ _; rfl) (pv 16) pe_iD) (pe_tupD (pa_cD (pe_tupD (pa_cD pe_iD (pa_cD pe_iD pa_nD rfl) rfl)) pa_nD rfl))) pa_nD rfl) rfl)) pa_nD rfl))) rfl (by first | exact Or.inl rfl | exact Or.inr rfl)
    refine pss_cD ?_ ?_
    · refine ps_ifD (pt_cmpD (op_gtD (Room.units hr)) (nomark _) (pe_bD cr_len2 bt_len (by first | rfl | decide) x.b_len (POs.cons rfl (pv 16) POs.nil) rfl) pe_iD) ?_ ?_
      · refine pss_1D ?_
        exact ps_dropD (pe_appendD (pv 21) (pa_cD (pe_revD (pv 16)) pa_nD rfl) rfl)
      · exact pss_nD
    refine pss_cD ?_ ?_
    · refine ps_ifD (pt_cmpD (op_neDD (Room.units hr)) (nomark _) (pe_lcN (own := [("value", 22)]) (LcOk.mk rfl S_law.nd (pi_D (pe_varD (pv 21))) (blk_by (by kernel_rfl)) (fun _ _ _ _ _ => ⟨rfl, (pg_nm S_law.nd rfl (by first | exact Or.inl rfl | exact Or.inr rfl) (by first | exact Or.inl rfl | exact Or.inr rfl) hL0n), (pts_1D (pt_notD (pt_truD (pe_fnD (ok__law_says x) hr (by decide) (by first | rfl | decide) (pa_cD (pe_fnD (ok_is_thing x) hr (by decide) (by first | rfl | decide) (pa_cD (pe_varD (pv 22)) pa_nD rfl) rfl (len_C len_N) rfl) (pa_cD pe_bD' pa_nD rfl) rfl) rfl (len_C (len_C len_N)) rfl))))⟩) (fun _ _ _ _ _ => ClIns.nil) (fun _ _ _ _ _ => (pe_varD (pv 22))) (fun _ => rfl) (show List.Nodup [22] from by decide) (show ∀ i ∈ ([22] : List Nat), i ∈ ([22] : List Nat) from by decide) hL0m)) (pe_lstD pa_nD)) ?_ ?_
      · refine pss_1D ?_
        exact ps_retD pe_bD'
      · exact pss_nD
    refine pss_cD ?_ ?_
    · exact ps_setD S_law.nd rfl (by first | exact Or.inl rfl | exact Or.inr rfl) hL0n (pe_lstD (pa_cD (pe_opD op_mulD (pe_tupD (pa_cD pe_iD pa_nD rfl)) (pv 3)) (pa_cD (pe_opD op_mulD (pe_tupD (pa_cD (pe_unD un_negD pe_iD) pa_nD rfl)) (pv 3)) (pa_cD (pe_opD op_addD (pe_tupD (pa_cD pe_iD pa_nD rfl)) (pe_opD op_mulD (pe_tupD (pa_cD pe_iD pa_nD rfl)) (pe_opD op_subD (pv 3) pe_iD))) (pa_cD (pe_opD op_mulD (pe_tupD (pa_cD pe_iD pa_nD rfl)) (pe_opD op_addD (pv 3) pe_iD)) (pa_cD (pe_opD op_mulD (pe_lstD (pa_cD pe_iD pa_nD rfl)) (pv 3)) (pa_cD (pe_opD op_addD (pe_tupD (pa_cD pe_bD' pa_nD rfl)) (pe_opD op_mulD (pe_tupD (pa_cD pe_iD pa_nD rfl)) (pe_opD op_subD (pv 3) pe_iD))) (pa_cD pe_nD pa_nD rfl) rfl) rfl) rfl) rfl) rfl) rfl)) rfl (by first | exact Or.inl rfl | exact Or.inr rfl)
    refine pss_1D ?_
    refine ps_ifD (pt_cmpD (op_neDD (Room.units hr)) (nomark _) (pe_lcN (own := [("value", 22)]) (LcOk.mk rfl S_law.nd (pi_D (pe_varD (pv 23))) (blk_by (by kernel_rfl)) (fun _ _ _ _ _ => ⟨rfl, (pg_nm S_law.nd rfl (by first | exact Or.inl rfl | exact Or.inr rfl) (by first | exact Or.inl rfl | exact Or.inr rfl) hL0n), pts_nD⟩) (fun _ _ _ _ _ => ClIns.nil) (fun _ _ _ _ _ => (pe_fnD (ok_is_place x) hr (by decide) (by first | rfl | decide) (pa_cD (pe_varD (pv 22)) (pa_cD (pe_varD (pv 3)) pa_nD rfl) rfl) rfl (len_C (len_C len_N)) rfl)) (fun _ => rfl) (show List.Nodup [22] from by decide) (show ∀ i ∈ ([22] : List Nat), i ∈ ([22] : List Nat) from by decide) hL0m)) (pe_opD op_addD (pe_lstD (pa_cD pe_bD' (pa_cD pe_bD' pa_nD rfl) rfl)) (pe_opD op_mulD (pe_lstD (pa_cD pe_bD' pa_nD rfl)) pe_iD))) ?_ ?_
    · refine pss_1D ?_
      exact ps_retD pe_bD'
    · exact pss_nD
  refine pss_cD ?_ ?_
  · exact ps_setD S_law.nd rfl (by first | exact Or.inl rfl | exact Or.inr rfl) hL0n (pe_tD cr_tuple bt_tuple (by first | rfl | decide) x.b_tuple (POs.cons rfl (pe_lcN (own := [("k", 8)]) (LcOk.mk rfl S_law.nd (pi_range1D (by first | rfl | decide) x.b_range (pa_cD pe_iD pa_nD rfl) rfl) (blk_by (by kernel_rfl)) (fun _ _ _ _ _ => ⟨rfl, (pg_nm S_law.nd rfl (by first | exact Or.inl rfl | exact Or.inr rfl) (by first | exact Or.inl rfl | exact Or.inr rfl) hL0n), pts_nD⟩) (fun _ _ _ _ _ => ClIns.nil) (fun _ _ _ _ _ => (pe_tupD (pa_cD (pe_tupD (pa_cD (pe_varD (pv 8)) (pa_cD (pe_opD op_addD (pv 8) pe_iD) pa_nD rfl) rfl)) (pa_cD (pe_tupD (pa_cD pe_iD (pa_cD pe_iD pa_nD rfl) rfl)) pa_nD rfl) rfl))) (fun _ => rfl) (show List.Nodup [8] from by decide) (show ∀ i ∈ ([8] : List Nat), i ∈ ([8] : List Nat) from by decide) hL0m)) POs.nil) rfl) rfl (by first | exact Or.inl rfl | exact Or.inr rfl)
  refine pss_cD ?_ ?_
  · refine ps_ifD (PW.pt (pw_orD (pt_cmpD op_isNotD (nomark _) (pe_fnD (ok_is_thing x) hr (by decide) (by first | rfl | decide) (pa_cD (pe_varD (pv 24)) pa_nD rfl) rfl (len_C len_N) rfl) pe_bD') (pw_orD (pt_cmpD op_isNotD (nomark _) (pe_fnD (ok_is_thing x) hr (by decide) (by first | rfl | decide) (pa_cD (pe_opD op_addD (pv 24) (pe_tupD (pa_cD (pe_tupD (pa_cD (pe_tupD (pa_cD pe_iD (pa_cD pe_iD pa_nD rfl) rfl)) (pa_cD (pe_tupD (pa_cD pe_iD (pa_cD pe_iD pa_nD rfl) rfl)) pa_nD rfl) rfl)) pa_nD rfl))) pa_nD rfl) rfl (len_C len_N) rfl) pe_bD') (pw_or1D (pt_cmpD (op_neDD (Room.units hr)) (nomark _) (pe_lcN (own := [("value", 22)]) (LcOk.mk rfl S_law.nd (pi_D (pe_lstD (pa_cD pe_iD (pa_cD pe_iD (pa_cD pe_iD (pa_cD pe_bD' (pa_cD pe_nD pa_nD rfl) rfl) rfl) rfl) rfl))) (blk_by (by kernel_rfl)) (fun _ _ _ _ _ => ⟨rfl, (pg_nm S_law.nd rfl (by first | exact Or.inl rfl | exact Or.inr rfl) (by first | exact Or.inl rfl | exact Or.inr rfl) hL0n), pts_nD⟩) (fun _ _ _ _ _ => ClIns.nil) (fun _ _ _ _ _ => (pe_fnD (ok_is_number x) hr (by decide) (by first | rfl | decide) (pa_cD (pe_varD (pv 22)) (pa_cD pe_iD (pa_cD pe_iD pa_nD rfl) rfl) rfl) rfl (len_C (len_C (len_C len_N))) rfl)) (fun _ => rfl) (show List.Nodup [22] from by decide) (show ∀ i ∈ ([22] : List Nat), i ∈ ([22] : List Nat) from by decide) hL0m)) (pe_lstD (pa_cD pe_bD' (pa_cD pe_bD' (pa_cD pe_bD' (pa_cD pe_bD' (pa_cD pe_bD' pa_nD rfl) rfl) rfl) rfl) rfl))))))) ?_ ?_
    · refine pss_1D ?_
      exact ps_retD pe_bD'
    · exact pss_nD
  refine pss_1D ?_
  exact ps_retD (pe_cmpD (op_eqDD (Room.units hr)) (nomark _) (pe_lcN (own := [("value", 22)]) (LcOk.mk rfl S_law.nd (pi_D (pe_lstD (pa_cD pe_sD (pa_cD pe_sD (pa_cD pe_sD (pa_cD pe_sD (pa_cD pe_sD (pa_cD pe_nD (pa_cD pe_sD pa_nD rfl) rfl) rfl) rfl) rfl) rfl) rfl))) (blk_by (by kernel_rfl)) (fun _ _ _ _ _ => ⟨rfl, (pg_nm S_law.nd rfl (by first | exact Or.inl rfl | exact Or.inr rfl) (by first | exact Or.inl rfl | exact Or.inr rfl) hL0n), pts_nD⟩) (fun _ _ _ _ _ => ClIns.nil) (fun _ _ _ _ _ => (pe_fnD (ok_is_word x) hr (by decide) (by first | rfl | decide) (pa_cD (pe_varD (pv 22)) pa_nD rfl) rfl (len_C len_N) rfl)) (fun _ => rfl) (show List.Nodup [22] from by decide) (show ∀ i ∈ ([22] : List Nat), i ∈ ([22] : List Nat) from by decide) hL0m)) (pe_opD op_addD (pe_lstD (pa_cD pe_bD' (pa_cD pe_bD' pa_nD rfl) rfl)) (pe_opD op_mulD (pe_lstD (pa_cD pe_bD' pa_nD rfl)) pe_iD)))
end
end Sd.K04
set_option Elab.async false
set_option linter.all false
set_option maxRecDepth 100000
set_option maxHeartbeats 4000000
set_option autoImplicit false
namespace Sd.K04
open PySem PySem.Spec PyProof.Rows L2 C8 Sd

theorem z2 : 2 ≤ sizeLine := sizeLine_big (by decide)
theorem is_number_int (v a b : Int) : F_is_number [.int v, .int a, .int b] = .ok (.val (.bool (decide (a ≤ v) && decide (v ≤ b)))) := by
  simp [F_is_number, ofBody, m_is_number, pIsi, isiD, PyData.isInt, PyData.isBool, vB]
  by_cases h : a ≤ v
  · simp [h]
  · simp [h]
/-- boxes -/
abbrev Bx := List (Int × Int)
def eP (p : Int × Int) : D := .tuple [.int p.1, .int p.2]
def eB (b : Bx) : D := .tuple (b.map eP)
def eT (b : List Bx) : D := .tuple (b.map eB)
def eL (b : List Bx) : D := .list (b.map eB)
def eV (b : List Int) : D := .tuple (b.map eI)
@[simp] theorem plain_eI (i : Int) : (eI i).plain = true := plain_int i
@[simp] theorem plain_eP (p : Int × Int) : (eP p).plain = true := by simp [eP]
theorem plainAll_map {α : Type} (f : α → D) (h : ∀ a, (f a).plain = true) (xs : List α) : PyData.plainAll (xs.map f) = true := by
  rw [plainAll_iff]
  intro d hd
  obtain ⟨a, _, rfl⟩ := List.mem_map.mp hd
  exact h a
@[simp] theorem plain_eB (b : Bx) : (eB b).plain = true := by
  unfold eB; rw [plain_tuple]; exact plainAll_map _ plain_eP _
@[simp] theorem plain_eT (b : List Bx) : (eT b).plain = true := by
  unfold eT; rw [plain_tuple]; exact plainAll_map _ plain_eB _
@[simp] theorem plain_eL (b : List Bx) : (eL b).plain = true := by
  unfold eL; rw [plain_list]; exact plainAll_map _ plain_eB _
@[simp] theorem plain_eV (b : List Int) : (eV b).plain = true := by
  unfold eV; rw [plain_tuple]; exact plainAll_map _ plain_eI _
@[simp] theorem ix_eP0 (p : Int × Int) : pIx2 (eP p) (.int 0) = some (.val (.int p.1)) := by simp [eP]
@[simp] theorem ix_eP1 (p : Int × Int) : pIx2 (eP p) (.int 1) = some (.val (.int p.2)) := by simp [eP]
theorem ix_eB (b : Bx) {i : Nat} (h : i < b.length) : pIx2 (eB b) (.int (i : Int)) = some (.val (eP b[i])) := by
  unfold eB
  rw [pIx2_t, ix_map eP b h]
  rfl
theorem ix_eT (b : List Bx) {i : Nat} (h : i < b.length) : pIx2 (eT b) (.int (i : Int)) = some (.val (eB b[i])) := by
  unfold eT
  rw [pIx2_t, ix_map eB b h]
  rfl
@[simp] theorem len_eB (b : Bx) : pLen2 [eB b] = some (.val (.int b.length)) := by simp [eB]
@[simp] theorem len_eT (b : List Bx) : pLen2 [eT b] = some (.val (.int b.length)) := by simp [eT]
@[simp] theorem len_eV (b : List Int) : pLen2 [eV b] = some (.val (.int b.length)) := by simp [eV]
@[simp] theorem zipOf_BB (a b : Bx) : zipOf [eB a, eB b] = some ((a.zip b).map fun p => .tuple [eP p.1, eP p.2]) := by
  simp [eB, zipD_map]
@[simp] theorem zipOf_BV (a : Bx) (b : List Int) : zipOf [eB a, eV b] = some ((a.zip b).map fun p => .tuple [eP p.1, .int p.2]) := by
  simp [eB, eV, zipD_map, eI]
@[simp] theorem iterD_B (a : Bx) : iterD (eB a) = some (a.map eP) := rfl
@[simp] theorem iterD_T (a : List Bx) : iterD (eT a) = some (a.map eB) := rfl
@[simp] theorem iterD_L (a : List Bx) : iterD (eL a) = some (a.map eB) := rfl
def clashB (a b : Bx) : Bool := (a.zip b).all fun p => decide (p.1.1 < p.2.2) && decide (p.2.1 < p.1.2)
theorem clash_ok (a b : Bx) : F_clash [eB a, eB b] = .ok (.val (.bool (clashB a b))) := by
  simp [F_clash, ofBody, m_clash]
  rw [sAll_map (a.zip b) (fun p => .tuple [eP p.1, eP p.2]) (fun p => decide (p.1.1 < p.2.2) && decide (p.2.1 < p.1.2))]
  · rfl
  · simp
  · simp
  · intro p _
    simp [turnA]
    by_cases h : p.1.1 < p.2.2 <;> simp [h]
def sharedB (a b : Bx) : Bx := (a.zip b).map fun p => (max p.1.1 p.2.1, min p.1.2 p.2.2)
theorem shared_ok (a b : Bx) (ha : a.length ≤ 1000000) : F_shared [eB a, eB b] = .ok (.val (if clashB a b = true then eB (sharedB a b) else .none)) := by
  simp [F_shared, ofBody, m_shared, clash_ok]
  cases clashB a b with
  | false => simp
  | true =>
    simp
    rw [sLC_one (a.zip b) (fun p => .tuple [eP p.1, eP p.2]) (fun p => eP (max p.1.1 p.2.1, min p.1.2 p.2.2))]
    · simp [eB, sharedB, Function.comp_def]
    · simp
    · simp
    · intro p _
      simp [turnC, z2, eP]
    · refine sizeLine_big ?_
      simp
      omega
def shiftedB (a : Bx) (v : List Int) : Bx := (a.zip v).map fun p => (p.1.1 + p.2, p.1.2 + p.2)
theorem shifted_ok (a : Bx) (b : List Int) (ha : a.length ≤ 1000000) : F_shifted [eB a, eV b] = .ok (.val (eB (shiftedB a b))) := by
  simp [F_shifted, ofBody, m_shifted]
  rw [sLC_one (a.zip b) (fun p => .tuple [eP p.1, .int p.2]) (fun p => eP (p.1.1 + p.2, p.1.2 + p.2))]
  · simp [eB, shiftedB, Function.comp_def]
  · simp
  · simp
  · intro p _
    simp [turnC, z2, eP]
  · refine sizeLine_big ?_
    simp
    omega
def holdsB (a : Bx) (v : List Int) : Bool := (a.zip v).all fun p => decide (p.1.1 < p.2) && decide (p.2 < p.1.2)
theorem holds_ok (a : Bx) (b : List Int) : F_holds [eB a, eV b] = .ok (.val (.bool (holdsB a b))) := by
  simp [F_holds, ofBody, m_holds]
  rw [sAll_map (a.zip b) (fun p => .tuple [eP p.1, .int p.2]) (fun p => decide (p.1.1 < p.2) && decide (p.2 < p.1.2))]
  · rfl
  · simp
  · simp
  · intro p _
    simp [turnA, eP]
    by_cases h : p.1.1 < p.2 <;> simp [h]
theorem dimension_ok (b : Bx) (bs : List Bx) : F_dimension [eT (b :: bs)] = .ok (.val (.int b.length)) := by
  simp [F_dimension, ofBody, m_dimension, eT]
theorem at_ok (a : List Bx) (v : List Int) (h : a.length ≤ 1000000) (ha : ∀ b ∈ a, b.length ≤ 1000000) : F_at [eT a, eV v] = .ok (.val (eT (a.map fun b => shiftedB b v))) := by
  simp [F_at, ofBody, m_at]
  rw [sLC_one a eB (fun b => eB (shiftedB b v))]
  · simp [eT, Function.comp_def]
  · simp
  · simp
  · intro b hb
    simp [turnC, shifted_ok _ _ (ha b hb)]
  · exact sizeLine_big h
end Sd.K04
set_option Elab.async false
set_option linter.all false
set_option maxRecDepth 100000
set_option maxHeartbeats 4000000
set_option autoImplicit false
namespace Sd.K04
open PySem PySem.Spec PyProof.Rows L2 C8 Sd

theorem clashes_ok (a b : List Bx) : F_clashes [eT a, eT b] = .ok (.val (.bool (a.any fun x => b.any fun y => clashB x y))) := by
  simp [F_clashes, ofBody, m_clashes]
  rw [sAny_map a eB (fun x => b.any fun y => clashB x y)]
  · simp
  · simp
  · simp
  · intro x _
    simp [turnA]
    rw [anyGo_cons]
    simp
    have h : ∀ (ys : List Bx) (ρ : Ev), (ρ = [some (.val (eT a)), some (.val (eT b)), some (.val (eB x)), none]) → ∃ ρ', anyItems (.nm 3) bYes (eltB true (sCall F_clash (aC (sVar 2) (aC (sVar 3) aN)))) (ys.map eB) ρ = .ok (ys.any fun y => clashB x y) ρ' ∧ ((ys.any fun y => clashB x y) = false → ρ'.set 2 none = [some (.val (eT a)), some (.val (eT b)), none, none]) ∧ (ρ'.set 3 none).set 2 none = [some (.val (eT a)), some (.val (eT b)), none, none] := by
      intro ys
      induction ys with
      | nil => rintro ρ rfl; exact ⟨_, rfl, fun _ => rfl, rfl⟩
      | cons y ys ih =>
        rintro ρ rfl
        rw [List.map_cons, anyItems_step]
        simp only [turnA, clash_ok, assignT_nm, bYes_ap, Res.bind_ok, eltB_ap, sCall_ap, aC_ap, sVar_ap, aN_ap, List.set, List.getElem?_cons_succ, List.getElem?_cons_zero, frz_val, if_true, List.any_cons]
        cases clashB x y with
        | true => exact ⟨_, rfl, fun q => (by cases q), rfl⟩
        | false => simpa using ih _ rfl
    simpa using h b _ rfl
theorem law_says_bool (a b : Bool) : F__law_says [.bool a, .bool b] = .ok (.val (.bool (a == b))) := by
  simp [F__law_says, ofBody, m__law_says, PyData.isBool]
theorem zip_all_range {α β : Type} [Inhabited α] [Inhabited β] (P : α → β → Bool) : ∀ (a : List α) (b : List β), a.length = b.length → ((List.range a.length).filter fun i => !P a[i]! b[i]!).isEmpty = (a.zip b).all fun p => P p.1 p.2
  | [], _, _ => rfl
  | x :: xs, [], h => by simp at h
  | x :: xs, y :: ys, h => by
    have ih := zip_all_range P xs ys (by simpa using h)
    rw [List.zip_cons_cons, List.all_cons, ← ih, List.length_cons, List.range_succ_eq_map, List.filter_cons]
    by_cases q : P x y = true
    · simp [q, List.filter_map, Function.comp_def]
    · simp [q]
theorem okEq_ns (xs : List Nat) : okEq (.list (xs.map eN)) = true := by
  have h := depth_mem (xs := xs.map eN) (n := 0) (by
    intro d hd
    obtain ⟨a, _, rfl⟩ := List.mem_map.mp hd
    simp [eN, PyData.depth])
  unfold okEq
  rw [plain_list, plainAll_map eN (fun a => plain_int _)]
  simp [PyData.depth]
  omega
def stB (p q : Int × Int) : Bool := decide (p.1 < q.2) && decide (q.1 < p.2)
theorem law_clash_ok (a b : Bx) (h : a.length = b.length) (hz : a.length ≤ 1000000) : F__law_clash [eB a, eB b] = .ok (.val (.bool (clashB a b))) := by
  unfold F__law_clash m__law_clash
  refine ofBody_ret0 [some (.val (eB a)), some (.val (eB b)), none] rfl ?_
  rw [sEqNil (sLC_if (List.range a.length) eN (fun i => !stB a[i]! b[i]!) eN ?_ ?_ ?_ ?_) (okEq_ns _)]
  · rw [List.isEmpty_map, zip_all_range stB a b h]
    rfl
  · refine sRange1_n (n := a.length) ?_ hz
    simp
  · simp
  · intro i hi
    have hi1 : i < a.length := List.mem_range.mp hi
    have hi2 : i < b.length := h ▸ hi1
    simp [turnC, eN, ix_eB _ hi1, ix_eB _ hi2, hi1, hi2, stB]
    by_cases q : b[i].2 ≤ a[i].1
    · have q2 : ¬ (a[i].1 < b[i].2) := by omega
      simp [q, q2]
    · have q2 : (a[i].1 < b[i].2) := by omega
      simp [q, q2]
      by_cases q3 : a[i].2 ≤ b[i].1
      · have q4 : ¬ (b[i].1 < a[i].2) := by omega
        simp [q3, q4]
      · have q4 : (b[i].1 < a[i].2) := by omega
        simp [q3, q4]
  · simp
    exact sizeLine_big hz
def hoB (p : Int × Int) (q : Int) : Bool := decide (p.1 < q) && decide (q < p.2)
theorem ix_eV (b : List Int) {i : Nat} (h : i < b.length) : pIx2 (eV b) (.int (i : Int)) = some (.val (.int b[i])) := by
  unfold eV
  rw [pIx2_t, ix_map eI b h]
  rfl
theorem law_within_ok (a : Bx) (b : List Int) (h : a.length = b.length) (hz : a.length ≤ 1000000) : F__law_within [eB a, eV b] = .ok (.val (.bool (holdsB a b))) := by
  unfold F__law_within m__law_within
  refine ofBody_ret0 [some (.val (eB a)), some (.val (eV b)), none] rfl ?_
  rw [sEqNil (sLC_if (List.range a.length) eN (fun i => !hoB a[i]! b[i]!) eN ?_ ?_ ?_ ?_) (okEq_ns _)]
  · rw [List.isEmpty_map, zip_all_range hoB a b h]
    rfl
  · refine sRange1_n (n := a.length) ?_ hz
    simp
  · simp
  · intro i hi
    have hi1 : i < a.length := List.mem_range.mp hi
    have hi2 : i < b.length := h ▸ hi1
    simp [turnC, eN, ix_eB _ hi1, ix_eV _ hi2, hi1, hi2, hoB]
    by_cases q : a[i].1 < b[i]
    · have q2 : ¬ (b[i] ≤ a[i].1) := by omega
      by_cases q3 : a[i].2 ≤ b[i] <;> simp [q, q2, q3]
    · have q2 : (b[i] ≤ a[i].1) := by omega
      simp [q, q2]
  · rw [List.length_range]
    exact sizeLine_big hz
end Sd.K04
set_option Elab.async false
set_option linter.all false
set_option maxRecDepth 100000
set_option maxHeartbeats 4000000
set_option autoImplicit false
namespace Sd.K04
open PySem PySem.Spec PyProof.Rows L2 C8 Sd

def numB (a b : Int) : D → Bool
  | .int i => decide (a ≤ i) && decide (i ≤ b)
  | _ => false
theorem is_number_D (d : D) (a b : Int) (hp : d.plain = true) : F_is_number [d, .int a, .int b] = .ok (.val (.bool (numB a b d))) := by
  cases d with
  | int v => exact is_number_int v a b
  | dict => simp [PyData.plain] at hp
  | _ => simp [F_is_number, ofBody, m_is_number, hp, numB, PyData.isInt, PyData.isBool]
def stretchB : D → Bool
  | .tuple [.int a, .int b] => (decide (-1000 ≤ a) && decide (a ≤ 1000)) && (decide (-1000 ≤ b) && decide (b ≤ 1000)) && decide (a < b)
  | _ => false
theorem two_of {xs : List D} (h : xs.length = 2) : ∃ x y, xs = [x, y] := by
  match xs, h with
  | [x, y], _ => exact ⟨x, y, rfl⟩
theorem stretchB_len {xs : List D} (h : xs.length ≠ 2) : stretchB (.tuple xs) = false := by
  match xs, h with
  | [], _ => rfl
  | [x], _ => cases x <;> rfl
  | [x, y], h => exact absurd rfl h
  | x :: y :: z :: r, _ => cases x <;> cases y <;> rfl
theorem is_stretch_D (d : D) (hp : d.plain = true) : F_is_stretch [d] = .ok (.val (.bool (stretchB d))) := by
  cases d with
  | dict => simp [PyData.plain] at hp
  | tuple xs =>
    by_cases h2 : xs.length = 2
    · obtain ⟨x, y, rfl⟩ := two_of h2
      simp only [plain_tuple, plainAll_cons, plainAll_nil, Bool.and_true, Bool.and_eq_true] at hp
      obtain ⟨hx, hy⟩ := hp
      simp [F_is_stretch, ofBody, m_is_stretch, hx, hy, PyData.isTuple]
      rw [sAll_map [x, y] id (fun d => numB (-1000) 1000 d)]
      · cases x <;> cases y <;> simp [numB, stretchB]
        rename_i a b
        by_cases q : ((-1000 ≤ a ∧ a ≤ 1000) ∧ -1000 ≤ b ∧ b ≤ 1000)
        · simp [q]
        · rw [if_neg q]
          have e : (decide (-1000 ≤ a) && decide (a ≤ 1000) && (decide (-1000 ≤ b) && decide (b ≤ 1000))) = false := by
            cases hh : (decide (-1000 ≤ a) && decide (a ≤ 1000) && (decide (-1000 ≤ b) && decide (b ≤ 1000))) with
            | false => rfl
            | true => exact absurd (by simpa only [Bool.and_eq_true, decide_eq_true_eq] using hh) q
          rw [e]
          rfl
      · simp
      · simp
      · intro d hd
        have hpd : d.plain = true := by
          simp at hd
          rcases hd with rfl | rfl
          · exact hx
          · exact hy
        simp [turnA, is_number_D _ _ _ hpd]
    · have h3 : ((xs.length : Int) == 2) = false := by simp; omega
      simp [F_is_stretch, ofBody, m_is_stretch, hp, PyData.isTuple, h3, stretchB_len h2]
  | _ => simp [F_is_stretch, ofBody, m_is_stretch, hp, stretchB, PyData.isTuple]
def boxB : D → Bool
  | .tuple xs => (xs.length == 2 || xs.length == 3) && xs.all stretchB
  | _ => false
theorem notin23 (n : Nat) : pNotIn2 (.int (n : Int)) (.tuple [.int 2, .int 3]) = some (.val (.bool (!(n == 2 || n == 3)))) := by
  have e2 : ((2 : Int) == (n : Int)) = (n == 2) := by
    by_cases h : n = 2
    · subst h; rfl
    · rw [beq_eq_false_iff_ne.mpr h]; simp; omega
  have e3 : ((3 : Int) == (n : Int)) = (n == 3) := by
    by_cases h : n = 3
    · subst h; rfl
    · rw [beq_eq_false_iff_ne.mpr h]; simp; omega
  simp only [pNotIn2, pNotIn, inD, okEq_int, List.any_cons, List.any_nil, eqv_int, Bool.or_false, e2, e3]
  simp [okEq, PyData.depth, PyData.depthAll, vB]
theorem is_box_D (d : D) (hp : d.plain = true) : F_is_box [d] = .ok (.val (.bool (boxB d))) := by
  cases d with
  | dict => simp [PyData.plain] at hp
  | tuple xs =>
    rw [plain_tuple, plainAll_iff] at hp
    have hz : 2 ≤ sizeLine := z2
    cases h2 : (xs.length == 2 || xs.length == 3) with
    | true =>
      simp [F_is_box, ofBody, m_is_box, PyData.isTuple, notin23, h2, hz, boxB, plainAll_iff.mpr hp]
      rw [sAll_map xs id stretchB]
      · simp
      · simp
      · simp
      · intro d hd
        simp [turnA, is_stretch_D _ (hp d hd)]
    | false => simp [F_is_box, ofBody, m_is_box, PyData.isTuple, notin23, h2, hz, boxB, plainAll_iff.mpr hp]
  | _ => simp [F_is_box, ofBody, m_is_box, hp, boxB, PyData.isTuple]
def placeB (n : Nat) : D → Bool
  | .tuple xs => xs.length == n && xs.all (numB (-4000) 4000)
  | _ => false
theorem is_place_D (d : D) (n : Nat) (hp : d.plain = true) : F_is_place [d, .int (n : Int)] = .ok (.val (.bool (placeB n d))) := by
  cases d with
  | dict => simp [PyData.plain] at hp
  | tuple xs =>
    rw [plain_tuple, plainAll_iff] at hp
    by_cases h2 : xs.length = n
    · have h3 : ((xs.length : Int) == (n : Int)) = true := by simp [h2]
      simp [F_is_place, ofBody, m_is_place, PyData.isTuple, h2, placeB, plainAll_iff.mpr hp]
      rw [sAll_map xs id (numB (-4000) 4000)]
      · simp
      · simp
      · simp
      · intro d hd
        simp [turnA, is_number_D _ _ _ (hp d hd)]
    · have h3 : ((xs.length : Int) == (n : Int)) = false := by simp; omega
      simp [F_is_place, ofBody, m_is_place, PyData.isTuple, h3, h2, placeB, plainAll_iff.mpr hp]
  | _ => simp [F_is_place, ofBody, m_is_place, hp, placeB, PyData.isTuple]
end Sd.K04
set_option Elab.async false
set_option linter.all false
set_option maxRecDepth 100000
set_option maxHeartbeats 4000000
set_option autoImplicit false
/-! k04: boxes as sets of unit cells. -/
namespace Sd.K04
abbrev Un := List Int
def inB : Bx → Un → Prop
  | [], [] => True
  | p :: b, i :: u => (p.1 ≤ i ∧ i < p.2) ∧ inB b u
  | _, _ => False
def okB (b : Bx) : Prop := ∀ p ∈ b, p.1 < p.2
theorem okB_cons {p : Int × Int} {b : Bx} : okB (p :: b) ↔ p.1 < p.2 ∧ okB b := by simp [okB]
theorem inB_len : ∀ {b : Bx} {u : Un}, inB b u → u.length = b.length
  | [], [], _ => rfl
  | p :: b, i :: u, h => by
    have h2 := inB_len (b := b) (u := u) h.2
    simp [h2]
  | [], _ :: _, h => h.elim
  | _ :: _, [], h => h.elim
theorem inB_lows : ∀ {b : Bx}, okB b → inB b (b.map (·.1))
  | [], _ => trivial
  | p :: b, h => ⟨⟨Int.le_refl _, (okB_cons.mp h).1⟩, inB_lows (okB_cons.mp h).2⟩
theorem clashB_cons (p q : Int × Int) (a b : Bx) : clashB (p :: a) (q :: b) = (stB p q && clashB a b) := rfl
theorem clashB_comm : ∀ (a b : Bx), clashB a b = clashB b a
  | [], [] => rfl
  | [], _ :: _ => rfl
  | _ :: _, [] => rfl
  | p :: a, q :: b => by
    rw [clashB_cons, clashB_cons, clashB_comm a b]
    unfold stB
    rw [Bool.and_comm (decide (p.1 < q.2))]
theorem sharedB_cons (p q : Int × Int) (a b : Bx) : sharedB (p :: a) (q :: b) = (max p.1 q.1, min p.2 q.2) :: sharedB a b := rfl
theorem inB_shared : ∀ {a b : Bx} {u : Un}, a.length = b.length → (inB (sharedB a b) u ↔ inB a u ∧ inB b u)
  | [], [], [], _ => by simp [sharedB, inB]
  | [], [], _ :: _, _ => by simp [sharedB, inB]
  | p :: a, q :: b, [], _ => by simp [sharedB, inB]
  | p :: a, q :: b, i :: u, h => by
    have ih := inB_shared (a := a) (b := b) (u := u) (by simpa using h)
    rw [sharedB_cons]
    simp only [inB, ih]
    constructor
    · rintro ⟨⟨h1, h2⟩, h3, h4⟩
      exact ⟨⟨by omega, h3⟩, by omega, h4⟩
    · rintro ⟨⟨h1, h3⟩, h2, h4⟩
      exact ⟨by omega, h3, h4⟩
  | [], _ :: _, _, h => by simp at h
  | _ :: _, [], _, h => by simp at h
theorem clash_iff : ∀ {a b : Bx}, okB a → okB b → a.length = b.length → (clashB a b = true ↔ okB (sharedB a b))
  | [], [], _, _, _ => by simp [clashB, okB, sharedB]
  | p :: a, q :: b, h1, h2, h => by
    have ih := clash_iff (okB_cons.mp h1).2 (okB_cons.mp h2).2 (by simpa using h)
    have e1 := (okB_cons.mp h1).1
    have e2 := (okB_cons.mp h2).1
    rw [clashB_cons, sharedB_cons, okB_cons, ← ih, Bool.and_eq_true]
    simp only [stB, Bool.and_eq_true, decide_eq_true_eq]
    constructor
    · rintro ⟨h3, h4⟩; exact ⟨by omega, h4⟩
    · rintro ⟨h3, h4⟩; exact ⟨by omega, h4⟩
  | [], _ :: _, _, _, h => by simp at h
  | _ :: _, [], _, _, h => by simp at h
theorem clash_cell {a b : Bx} (ha : okB a) (hb : okB b) (h : a.length = b.length) : clashB a b = true ↔ ∃ u, inB a u ∧ inB b u := by
  rw [clash_iff ha hb h]
  constructor
  · intro hs
    exact ⟨_, (inB_shared h).mp (inB_lows hs)⟩
  · rintro ⟨u, h1⟩
    have h2 := (inB_shared h).mpr h1
    generalize sharedB a b = c at h2
    clear h1 h ha hb
    induction c generalizing u with
    | nil => intro p hp; simp at hp
    | cons p c ih =>
      cases u with
      | nil => exact h2.elim
      | cons i u =>
        rw [okB_cons]
        obtain ⟨⟨h3, h4⟩, h5⟩ := h2
        exact ⟨by omega, ih _ h5⟩
/-- what is left of a box without a middle -/
def wo : Bx → Bx → List Bx
  | r :: rest, m :: mids => (if r.1 < m.1 then [(r.1, m.1) :: rest] else []) ++ (if m.2 < r.2 then [(m.2, r.2) :: rest] else []) ++ (wo rest mids).map (m :: ·)
  | _, _ => []
def inside : Bx → Bx → Prop
  | [], [] => True
  | r :: rest, m :: mids => (r.1 ≤ m.1 ∧ m.1 < m.2 ∧ m.2 ≤ r.2) ∧ inside rest mids
  | _, _ => False
def apartB (p q : Bx) : Prop := ∀ u, inB p u → inB q u → False
theorem inside_in : ∀ {b m : Bx}, inside b m → ∀ {u : Un}, inB m u → inB b u
  | [], [], _, _, h => h
  | r :: b, m :: ms, h, [], hu => hu.elim
  | r :: b, m :: ms, h, i :: u, hu => by
    obtain ⟨⟨h1, h2, h3⟩, h4⟩ := h
    obtain ⟨⟨h5, h6⟩, h7⟩ := hu
    exact ⟨⟨by omega, by omega⟩, inside_in h4 h7⟩
theorem wo_ok : ∀ {b m : Bx}, okB b → inside b m → ∀ p ∈ wo b m, okB p ∧ p.length = b.length
  | [], [], _, _ => by intro p hp; simp [wo] at hp
  | r :: b, m :: ms, hb, h => by
    obtain ⟨⟨h1, h2, h3⟩, h4⟩ := h
    have hb2 := (okB_cons.mp hb).2
    have ih := wo_ok hb2 h4
    intro p hp
    simp only [wo, List.mem_append, List.mem_map] at hp
    rcases hp with (hp | hp) | ⟨q, hq, rfl⟩
    · split at hp
      · rename_i hh
        simp at hp; subst hp
        exact ⟨okB_cons.mpr ⟨hh, hb2⟩, by simp⟩
      · simp at hp
    · split at hp
      · rename_i hh
        simp at hp; subst hp
        exact ⟨okB_cons.mpr ⟨hh, hb2⟩, by simp⟩
      · simp at hp
    · have := ih q hq
      exact ⟨okB_cons.mpr ⟨h2, this.1⟩, by simp [this.2]⟩
  | [], _ :: _, _, h => h.elim
  | _ :: _, [], _, h => h.elim
theorem wo_in : ∀ {b m : Bx}, inside b m → ∀ u, (∃ p ∈ wo b m, inB p u) ↔ inB b u ∧ ¬ inB m u
  | [], [], _, u => by cases u <;> simp [wo, inB]
  | r :: b, m :: ms, h, [] => by
    constructor
    · rintro ⟨p, hp, hu⟩
      exfalso
      simp only [wo, List.mem_append, List.mem_map] at hp
      rcases hp with (hp | hp) | ⟨q, hq, rfl⟩
      · split at hp
        · simp at hp; subst hp; exact hu
        · simp at hp
      · split at hp
        · simp at hp; subst hp; exact hu
        · simp at hp
      · exact hu
    · rintro ⟨hu, _⟩; exact hu.elim
  | r :: b, m :: ms, h, i :: u => by
    obtain ⟨⟨h1, h2, h3⟩, h4⟩ := h
    have ih := wo_in h4 u
    have hin := fun (x : inB ms u) => inside_in h4 x
    simp only [wo, List.mem_append, List.mem_map, inB]
    constructor
    · rintro ⟨p, (hp | hp) | ⟨q, hq, rfl⟩, hu⟩
      · split at hp
        · simp at hp; subst hp
          obtain ⟨⟨a1, a2⟩, a3⟩ := hu
          exact ⟨⟨⟨by omega, by omega⟩, a3⟩, fun x => by omega⟩
        · simp at hp
      · split at hp
        · simp at hp; subst hp
          obtain ⟨⟨a1, a2⟩, a3⟩ := hu
          exact ⟨⟨⟨by omega, by omega⟩, a3⟩, fun x => by omega⟩
        · simp at hp
      · obtain ⟨⟨a1, a2⟩, a3⟩ := hu
        have := ih.mp ⟨q, hq, a3⟩
        exact ⟨⟨⟨by omega, by omega⟩, this.1⟩, fun x => this.2 x.2⟩
    · rintro ⟨⟨⟨a1, a2⟩, a3⟩, hn⟩
      by_cases c1 : i < m.1
      · refine ⟨(r.1, m.1) :: b, .inl (.inl ?_), ⟨a1, c1⟩, a3⟩
        rw [if_pos (by omega)]; simp
      · by_cases c2 : m.2 ≤ i
        · refine ⟨(m.2, r.2) :: b, .inl (.inr ?_), ⟨c2, a2⟩, a3⟩
          rw [if_pos (by omega)]; simp
        · obtain ⟨q, hq, hu⟩ := ih.mpr ⟨a3, fun x => hn ⟨⟨by omega, by omega⟩, x⟩⟩
          exact ⟨m :: q, .inr ⟨q, hq, rfl⟩, ⟨by omega, by omega⟩, hu⟩
  | [], _ :: _, h, _ => h.elim
  | _ :: _, [], h, _ => h.elim
theorem wo_apart : ∀ {b m : Bx}, inside b m → (wo b m).Pairwise apartB
  | [], [], _ => by simp [wo]
  | r :: b, m :: ms, h => by
    obtain ⟨⟨h1, h2, h3⟩, h4⟩ := h
    have ih := wo_apart h4
    have h2nd : ((wo b ms).map (m :: ·)).Pairwise apartB := by
      rw [List.pairwise_map]
      refine ih.imp fun {p q} hpq u hp hq => ?_
      cases u with
      | nil => exact hp.elim
      | cons i u => exact hpq u hp.2 hq.2
    simp only [wo]
    rw [List.append_assoc, List.pairwise_append, List.pairwise_append]
    refine ⟨by split <;> simp, ⟨by split <;> simp, h2nd, ?_⟩, ?_⟩
    · intro p hp q hq u hu hv
      split at hp
      · simp at hp; subst hp
        obtain ⟨w, _, rfl⟩ := List.mem_map.mp hq
        cases u with
        | nil => exact hu.elim
        | cons i u => have := hu.1; have := hv.1; omega
      · simp at hp
    · intro p hp q hq u hu hv
      split at hp
      · simp at hp; subst hp
        cases u with
        | nil => exact hu.elim
        | cons i u =>
          have a := hu.1
          rcases List.mem_append.mp hq with hq | hq
          · split at hq
            · simp at hq; subst hq
              have := hv.1; omega
            · simp at hq
          · obtain ⟨w, _, rfl⟩ := List.mem_map.mp hq
            have := hv.1; omega
      · simp at hp
  | [], _ :: _, h => h.elim
  | _ :: _, [], h => h.elim
end Sd.K04
set_option Elab.async false
set_option linter.all false
set_option maxRecDepth 100000
set_option maxHeartbeats 4000000
set_option autoImplicit false
/-! k04: boxes taken apart, and counted. -/
namespace Sd.K04
theorem inside_shared : ∀ {a b : Bx}, okB a → okB b → a.length = b.length → clashB a b = true → inside a (sharedB a b)
  | [], [], _, _, _, _ => trivial
  | p :: a, q :: b, h1, h2, h, hc => by
    rw [clashB_cons, Bool.and_eq_true] at hc
    have ih := inside_shared (okB_cons.mp h1).2 (okB_cons.mp h2).2 (by simpa using h) hc.2
    have e1 := (okB_cons.mp h1).1
    have e2 := (okB_cons.mp h2).1
    have hs := hc.1
    simp only [stB, Bool.and_eq_true, decide_eq_true_eq] at hs
    rw [sharedB_cons]
    refine ⟨⟨?_, ?_, ?_⟩, ih⟩
    · show p.1 ≤ max p.1 q.1; omega
    · show max p.1 q.1 < min p.2 q.2; omega
    · show min p.2 q.2 ≤ p.2; omega
  | [], _ :: _, _, _, h, _ => by simp at h
  | _ :: _, [], _, _, h, _ => by simp at h
def woB (a b : Bx) : List Bx := if clashB a b = true then wo a (sharedB a b) else [a]
def good (n : Nat) (b : Bx) : Prop := okB b ∧ b.length = n
section
variable {n : Nat} {a b : Bx}
theorem woB_good (ha : good n a) (hb : good n b) : ∀ p ∈ woB a b, good n p := by
  unfold woB
  split
  · rename_i hc
    intro p hp
    have := wo_ok ha.1 (inside_shared ha.1 hb.1 (ha.2.trans hb.2.symm) hc) p hp
    exact ⟨this.1, this.2.trans ha.2⟩
  · intro p hp
    simp at hp; subst hp; exact ha
theorem woB_in (ha : good n a) (hb : good n b) (u : Un) : (∃ p ∈ woB a b, inB p u) ↔ inB a u ∧ ¬ inB b u := by
  have hl := ha.2.trans hb.2.symm
  unfold woB
  split
  · rename_i hc
    rw [wo_in (inside_shared ha.1 hb.1 hl hc), inB_shared hl]
    constructor
    · rintro ⟨h1, h2⟩; exact ⟨h1, fun h => h2 ⟨h1, h⟩⟩
    · rintro ⟨h1, h2⟩; exact ⟨h1, fun h => h2 h.2⟩
  · rename_i hc
    rw [clash_cell ha.1 hb.1 hl] at hc
    constructor
    · rintro ⟨p, hp, hu⟩
      simp at hp; subst hp
      exact ⟨hu, fun h => hc ⟨u, hu, h⟩⟩
    · rintro ⟨h1, _⟩
      exact ⟨a, by simp, h1⟩
theorem woB_apart (ha : good n a) (hb : good n b) : (woB a b).Pairwise apartB := by
  unfold woB
  split
  · rename_i hc
    exact wo_apart (inside_shared ha.1 hb.1 (ha.2.trans hb.2.symm) hc)
  · simp
def cutB (ps : List Bx) (o : Bx) : List Bx := ps.flatMap fun p => woB p o
theorem cutB_ok {ps : List Bx} (hp : ∀ p ∈ ps, good n p) (hb : good n b) (hd : ps.Pairwise apartB) : (∀ p ∈ cutB ps b, good n p) ∧ (cutB ps b).Pairwise apartB ∧ ∀ u, (∃ q ∈ cutB ps b, inB q u) ↔ (∃ p ∈ ps, inB p u) ∧ ¬ inB b u := by
  refine ⟨?_, ?_, ?_⟩
  · intro q hq
    obtain ⟨p, h1, h2⟩ := List.mem_flatMap.mp hq
    exact woB_good (hp p h1) hb q h2
  · unfold cutB
    rw [List.pairwise_flatMap]
    refine ⟨fun p h => woB_apart (hp p h) hb, ?_⟩
    have hd2 : ps.Pairwise fun x y => (x ∈ ps ∧ y ∈ ps) ∧ apartB x y := by
      have := List.Pairwise.and_mem.mp hd
      exact this.imp fun {x y} h => ⟨⟨h.1, h.2.1⟩, h.2.2⟩
    refine hd2.imp fun {x y} h q hq r hr u hu hv => ?_
    exact h.2 u ((woB_in (hp x h.1.1) hb u).mp ⟨q, hq, hu⟩).1 ((woB_in (hp y h.1.2) hb u).mp ⟨r, hr, hv⟩).1
  · intro u
    constructor
    · rintro ⟨q, hq, hu⟩
      obtain ⟨p, h1, h2⟩ := List.mem_flatMap.mp hq
      have := (woB_in (hp p h1) hb u).mp ⟨q, h2, hu⟩
      exact ⟨⟨p, h1, this.1⟩, this.2⟩
    · rintro ⟨⟨p, h1, hu⟩, hn⟩
      obtain ⟨q, hq, h⟩ := (woB_in (hp p h1) hb u).mpr ⟨hu, hn⟩
      exact ⟨q, List.mem_flatMap.mpr ⟨p, h1, hq⟩, h⟩
theorem cuts_ok : ∀ {os ps : List Bx}, (∀ p ∈ ps, good n p) → (∀ o ∈ os, good n o) → ps.Pairwise apartB → (∀ p ∈ os.foldl cutB ps, good n p) ∧ (os.foldl cutB ps).Pairwise apartB ∧ ∀ u, (∃ q ∈ os.foldl cutB ps, inB q u) ↔ (∃ p ∈ ps, inB p u) ∧ ∀ o ∈ os, ¬ inB o u
  | [], ps, hp, _, hd => ⟨hp, hd, fun u => by simp⟩
  | o :: os, ps, hp, ho, hd => by
    obtain ⟨a1, a2, a3⟩ := cutB_ok hp (ho o (by simp)) hd
    obtain ⟨b1, b2, b3⟩ := cuts_ok (os := os) a1 (fun x hx => ho x (by simp [hx])) a2
    refine ⟨b1, b2, fun u => ?_⟩
    rw [List.foldl_cons, b3 u, a3 u]
    simp [and_assoc]
def apStep (found : List Bx) (box : Bx) : List Bx := found ++ found.foldl cutB [box]
def apB (bs : List Bx) : List Bx := bs.foldl apStep []
theorem aps_ok : ∀ {bs found : List Bx}, (∀ p ∈ found, good n p) → (∀ o ∈ bs, good n o) → found.Pairwise apartB → (∀ p ∈ bs.foldl apStep found, good n p) ∧ (bs.foldl apStep found).Pairwise apartB ∧ ∀ u, (∃ q ∈ bs.foldl apStep found, inB q u) ↔ (∃ p ∈ found, inB p u) ∨ ∃ o ∈ bs, inB o u
  | [], found, hp, _, hd => ⟨hp, hd, fun u => by simp⟩
  | o :: os, found, hp, ho, hd => by
    obtain ⟨a1, a2, a3⟩ := cuts_ok (os := found) (ps := [o]) (by intro p h; simp at h; subst h; exact ho _ (by simp)) hp (by simp)
    have g1 : ∀ p ∈ apStep found o, good n p := by
      intro p h
      rcases List.mem_append.mp h with h | h
      · exact hp p h
      · exact a1 p h
    have g2 : (apStep found o).Pairwise apartB := by
      refine List.pairwise_append.mpr ⟨hd, a2, fun x hx y hy u hu hv => ?_⟩
      exact ((a3 u).mp ⟨y, hy, hv⟩).2 x hx hu
    obtain ⟨b1, b2, b3⟩ := aps_ok (bs := os) g1 (fun x hx => ho x (by simp [hx])) g2
    refine ⟨b1, b2, fun u => ?_⟩
    rw [List.foldl_cons, b3 u]
    have h3 := a3 u
    constructor
    · rintro (⟨p, h, hu⟩ | ⟨x, hx, hu⟩)
      · rcases List.mem_append.mp h with h | h
        · exact .inl ⟨p, h, hu⟩
        · obtain ⟨⟨q, hq, hv⟩, _⟩ := h3.mp ⟨p, h, hu⟩
          simp at hq; subst hq
          exact .inr ⟨q, by simp, hv⟩
      · exact .inr ⟨x, by simp [hx], hu⟩
    · rintro (⟨p, h, hu⟩ | ⟨x, hx, hu⟩)
      · exact .inl ⟨p, List.mem_append.mpr (.inl h), hu⟩
      · rcases List.mem_cons.mp hx with rfl | hx
        · by_cases hf : ∃ p ∈ found, inB p u
          · obtain ⟨p, h, hv⟩ := hf
            exact .inl ⟨p, List.mem_append.mpr (.inl h), hv⟩
          · obtain ⟨q, hq, hv⟩ := h3.mpr ⟨⟨x, by simp, hu⟩, fun p h hv => hf ⟨p, h, hv⟩⟩
            exact .inl ⟨q, List.mem_append.mpr (.inr hq), hv⟩
        · exact .inr ⟨x, hx, hu⟩
end
/-! cells -/
def ran (p : Int × Int) : List Int := (List.range (p.2 - p.1).toNat).map fun (i : Nat) => p.1 + (i : Int)
theorem mem_ran (p : Int × Int) (i : Int) : i ∈ ran p ↔ p.1 ≤ i ∧ i < p.2 := by
  unfold ran
  rw [List.mem_map]
  constructor
  · rintro ⟨k, hk, rfl⟩
    have := List.mem_range.mp hk
    omega
  · rintro ⟨h1, h2⟩
    exact ⟨(i - p.1).toNat, List.mem_range.mpr (by omega), by omega⟩
theorem nodup_ran (p : Int × Int) : (ran p).Nodup := by
  unfold ran List.Nodup
  rw [List.pairwise_map]
  exact List.nodup_range.imp fun {a b} h e => h (by omega)
def cells : Bx → List Un
  | [] => [[]]
  | p :: b => (ran p).flatMap fun i => (cells b).map (i :: ·)
theorem mem_cells : ∀ (b : Bx) (u : Un), u ∈ cells b ↔ inB b u
  | [], [] => by simp [cells, inB]
  | [], _ :: _ => by simp [cells, inB]
  | p :: b, [] => by simp [cells, inB]
  | p :: b, i :: u => by
    simp only [cells, List.mem_flatMap, List.mem_map, inB]
    constructor
    · rintro ⟨j, hj, v, hv, e⟩
      cases e
      exact ⟨(mem_ran p i).mp hj, (mem_cells b u).mp hv⟩
    · rintro ⟨h1, h2⟩
      exact ⟨i, (mem_ran p i).mpr h1, u, (mem_cells b u).mpr h2, rfl⟩
theorem nodup_cells : ∀ b : Bx, (cells b).Nodup
  | [] => by simp [cells]
  | p :: b => by
    have ih := nodup_cells b
    simp only [cells]
    unfold List.Nodup
    rw [List.pairwise_flatMap]
    refine ⟨fun i _ => ?_, ?_⟩
    · rw [List.pairwise_map]
      exact ih.imp fun {x y} h e => h (by cases e; rfl)
    · refine (nodup_ran p).imp fun {i j} h x hx y hy e => ?_
      obtain ⟨v, _, rfl⟩ := List.mem_map.mp hx
      obtain ⟨w, _, rfl⟩ := List.mem_map.mp hy
      cases e
      exact h rfl
def roomB (b : Bx) : Int := b.foldr (fun p r => (p.2 - p.1) * r) 1
theorem len_cells : ∀ {b : Bx}, okB b → ((cells b).length : Int) = roomB b
  | [], _ => rfl
  | p :: b, h => by
    have ih := len_cells (okB_cons.mp h).2
    have h1 := (okB_cons.mp h).1
    have e : (cells (p :: b)).length = (ran p).length * (cells b).length := by
      simp only [cells]
      generalize ran p = l
      induction l with
      | nil => simp
      | cons x l ihl => rw [List.flatMap_cons, List.length_append, List.length_map, ihl, List.length_cons, Nat.succ_mul, Nat.add_comm]
    rw [e]
    show (((ran p).length * (cells b).length : Nat) : Int) = (p.2 - p.1) * roomB b
    rw [Int.natCast_mul, ih]
    congr 1
    simp [ran]
    omega
theorem sum_cells : ∀ {l : List Bx}, (∀ b ∈ l, okB b) → (((l.flatMap cells).length : Nat) : Int) = (l.map roomB).sum
  | [], _ => rfl
  | b :: l, h => by
    have ih := sum_cells (l := l) fun x hx => h x (by simp [hx])
    rw [List.flatMap_cons, List.length_append, List.map_cons, List.sum_cons, Int.natCast_add, ih, len_cells (h b (by simp))]
theorem nodup_flat {l : List Bx} (h : l.Pairwise apartB) : (l.flatMap cells).Nodup := by
  unfold List.Nodup
  rw [List.pairwise_flatMap]
  refine ⟨fun b _ => nodup_cells b, h.imp fun {x y} hxy u hu v hv e => ?_⟩
  subst e
  exact hxy u ((mem_cells x u).mp hu) ((mem_cells y u).mp hv)
def unitsOf (bs : List Bx) (U : List Un) : Prop := U.Nodup ∧ ∀ u, u ∈ U ↔ ∃ b ∈ bs, inB b u
def volB (bs : List Bx) : Int := ((apB bs).map roomB).sum
theorem apB_units {n : Nat} {bs : List Bx} (h : ∀ b ∈ bs, good n b) : unitsOf bs ((apB bs).flatMap cells) := by
  obtain ⟨a1, a2, a3⟩ := aps_ok (found := []) (by simp) h (by simp)
  refine ⟨nodup_flat a2, fun u => ?_⟩
  have h3 := a3 u
  simp only [List.not_mem_nil, false_and, exists_false, false_or] at h3
  rw [← h3, List.mem_flatMap]
  constructor
  · rintro ⟨b, h1, h2⟩; exact ⟨b, h1, (mem_cells b u).mp h2⟩
  · rintro ⟨b, h1, h2⟩; exact ⟨b, h1, (mem_cells b u).mpr h2⟩
theorem units_len {bs : List Bx} {U V : List Un} (h1 : unitsOf bs U) (h2 : unitsOf bs V) : U.length = V.length :=
  ((List.perm_ext_iff_of_nodup h1.1 h2.1).mpr fun u => (h1.2 u).trans (h2.2 u).symm).length_eq
theorem vol_units {n : Nat} {bs : List Bx} {U : List Un} (h : ∀ b ∈ bs, good n b) (hu : unitsOf bs U) : volB bs = (U.length : Int) := by
  obtain ⟨a1, a2, a3⟩ := aps_ok (found := []) (by simp) h (by simp)
  rw [units_len hu (apB_units h)]
  exact (sum_cells fun b hb => (a1 b hb).1).symm
theorem full_of_len {α : Type} [DecidableEq α] {U V : List α} (h1 : U.Nodup) (h2 : V.Nodup) (hs : U ⊆ V) (hl : V.length ≤ U.length) : V ⊆ U := by
  intro x hx
  by_cases h : x ∈ U
  · exact h
  · have := List.Nodup.length_le_of_subset (l₁ := x :: U) (l₂ := V) (List.nodup_cons.mpr ⟨h, h1⟩) (by
      intro y hy
      rcases List.mem_cons.mp hy with rfl | hy
      · exact hx
      · exact hs hy)
    simp at this
    omega
theorem same_iff {n : Nat} {as bs : List Bx} {U V : List Un} (ha : ∀ b ∈ as, good n b) (hb : ∀ b ∈ bs, good n b) (hu : unitsOf as U) (hv : unitsOf bs V) : (volB as = volB (as ++ bs) ∧ volB bs = volB (as ++ bs)) ↔ ∀ u, u ∈ U ↔ u ∈ V := by
  have hab : ∀ b ∈ as ++ bs, good n b := by
    intro b h
    rcases List.mem_append.mp h with h | h
    · exact ha b h
    · exact hb b h
  have hw := apB_units hab
  have mem : ∀ u, u ∈ ((apB (as ++ bs)).flatMap cells) ↔ u ∈ U ∨ u ∈ V := by
    intro u
    rw [hw.2 u, hu.2 u, hv.2 u]
    constructor
    · rintro ⟨b, h, hu⟩
      rcases List.mem_append.mp h with h | h
      · exact .inl ⟨b, h, hu⟩
      · exact .inr ⟨b, h, hu⟩
    · rintro (⟨b, h, hu⟩ | ⟨b, h, hu⟩)
      · exact ⟨b, List.mem_append.mpr (.inl h), hu⟩
      · exact ⟨b, List.mem_append.mpr (.inr h), hu⟩
  rw [vol_units ha hu, vol_units hb hv, vol_units hab hw]
  constructor
  · rintro ⟨e1, e2⟩ u
    have f1 := full_of_len hu.1 hw.1 (fun x hx => (mem x).mpr (.inl hx)) (by omega)
    have f2 := full_of_len hv.1 hw.1 (fun x hx => (mem x).mpr (.inr hx)) (by omega)
    constructor
    · intro h; exact f2 ((mem u).mpr (.inl h))
    · intro h; exact f1 ((mem u).mpr (.inr h))
  · intro h
    have p1 := ((List.perm_ext_iff_of_nodup hu.1 hw.1).mpr fun u => by rw [mem u, h u]; simp).length_eq
    have p2 := ((List.perm_ext_iff_of_nodup hv.1 hw.1).mpr fun u => by rw [mem u, h u]; simp).length_eq
    exact ⟨by omega, by omega⟩
end Sd.K04
set_option Elab.async false
set_option linter.all false
set_option maxRecDepth 100000
set_option maxHeartbeats 4000000
set_option autoImplicit false
namespace Sd.K04
open PySem PySem.Spec PyProof.Rows L2 C8 Sd

theorem sRange1_s {as : M (List D)} {ρ : Ev} {n : Nat} (h : as ρ = .ok [.int (n : Int)] ρ) (hn : n ≤ 1000000) : sRange1 as ρ = .ok ((List.range n).map eN) ρ := sRange1_n h hn
theorem eB_app (a b : Bx) : eB (a ++ b) = .tuple (a.map eP ++ b.map eP) := by simp [eB]
theorem sl_to (pre rest : Bx) (i : Nat) (h : i = pre.length) : pSl none (some (i : Int)) (eB (pre ++ rest)) = some (.val (eB pre)) := by
  rw [eB_app]
  show some (Sl.val (.tuple (cutD _ _ _))) = _
  rw [cutD_to _ _ _ (by simpa using h)]
  rfl
theorem sl_from (pre rest : Bx) (i : Nat) (h : i = pre.length) : pSl (some (i : Int)) none (eB (pre ++ rest)) = some (.val (eB rest)) := by
  rw [eB_app]
  show some (Sl.val (.tuple (cutD _ _ _))) = _
  rw [cutD_from _ _ _ (by simpa using h)]
  rfl
theorem sl_from1 (pre rest : Bx) (r : Int × Int) (i : Nat) (h : i = pre.length) : pSl (some ((i : Int) + 1)) none (eB (pre ++ r :: rest)) = some (.val (eB rest)) := by
  have e : (i : Int) + 1 = ((i + 1 : Nat) : Int) := by simp
  have e2 : pre ++ r :: rest = (pre ++ [r]) ++ rest := by simp
  rw [e, e2, sl_from _ _ _ (by simp [h])]
theorem ix_app (pre rest : Bx) (r : Int × Int) (i : Nat) (h : i = pre.length) : pIx2 (eB (pre ++ r :: rest)) (.int (i : Int)) = some (.val (eP r)) := by
  rw [ix_eB _ (by simp; omega)]
  subst h
  simp
@[simp] theorem seqD_B (a : Bx) : seqD (eB a) = some (a.map eP) := rfl
@[simp] theorem seqD_T (a : List Bx) : seqD (eT a) = some (a.map eB) := rfl
@[simp] theorem seqD_L (a : List Bx) : seqD (eL a) = some (a.map eB) := rfl
/-- the state of without's loop -/
def wSt (a b mid : Bx) (found : List Bx) (left : Bx) (x y z : Option Sl) : Ev := [some (.val (eB a)), some (.val (eB b)), some (.val (eB mid)), some (.own (.lst (found.map eB))), some (.val (eB left)), x, y, z]
theorem without_ok (a b : Bx) (h : a.length = b.length) (ha : okB a) (hb : okB b) (hz : a.length ≤ 1000) : F_without [eB a, eB b] = .ok (.own (.lst ((if clashB a b = true then wo a (sharedB a b) else [a]).map eB))) := by
  have hz1 : a.length ≤ 1000000 := by omega
  have hs := shared_ok a b hz1
  have one1 : 1 ≤ sizeLine := sizeLine_big (by decide)
  cases hc : clashB a b with
  | false =>
    rw [hc] at hs
    simp [F_without, ofBody, m_without, hs, pIs, isNoneD, vB, one1]
  | true =>
    rw [hc] at hs
    have hin : inside a (sharedB a b) := inside_shared ha hb h hc
    have hnone : ∀ c : Bx, pIs (eB c) .none = some (.val (.bool false)) := fun c => rfl
    have loop := forItems_map (t := .nm 5) (body := (mSeq (mFor (sIt (sTup (aC (sTup (aC (sOp2 pIx2 (.ex (sOp2 pIx2 (.nm 4) (.nm 5))) (.ex (sC (.int 0)))) (aC (sOp2 pIx2 (.ex (sOp2 pIx2 (.nm 2) (.nm 5))) (.ex (sC (.int 0)))) aN))) (aC (sTup (aC (sOp2 pIx2 (.ex (sOp2 pIx2 (.nm 2) (.nm 5))) (.ex (sC (.int 1)))) (aC (sOp2 pIx2 (.ex (sOp2 pIx2 (.nm 4) (.nm 5))) (.ex (sC (.int 1)))) aN))) aN)))) (.tup [(.nm 6), (.nm 7)]) (mIf (bVal (sOp2 pLt (.nm 6) (.nm 7))) (mDrop (sLM opAppend 3 (aC (sTup (aS (sSl (.nm 4) .no (.ex (sVar 5))) (aC (sTup (aC (sVar 6) (aC (sVar 7) aN))) (aS (sSl (.nm 4) (.ex (sOp2 pAdd (.nm 5) (.ex (sC (.int 1))))) .no) aN)))) aN))) mNext)) (mSet 4 (sTup (aS (sSl (.nm 4) .no (.ex (sVar 5))) (aC (sOp2 pIx2 (.nm 2) (.nm 5)) (aS (sSl (.nm 4) (.ex (sOp2 pAdd (.nm 5) (.ex (sC (.int 1))))) .no) aN)))))))
      eN (I := fun is ρ => ∃ (pre rest mids : Bx) (found : List Bx) (x y z : Option Sl), sharedB a b = pre ++ mids ∧ a.length = pre.length + rest.length ∧ rest.length = mids.length ∧ is = List.range' pre.length rest.length ∧ found.length ≤ 2 * pre.length ∧ found ++ (wo rest mids).map (pre ++ ·) = wo a (sharedB a b) ∧ ρ = wSt a b (sharedB a b) found (pre ++ rest) x y z)
      (items := List.range a.length) (ρ := wSt a b (sharedB a b) [] a none none none)
      ⟨[], a, sharedB a b, [], none, none, none, rfl, by simp, by simp [sharedB, h], by rw [List.range_eq_range']; rfl, by simp, by simp, rfl⟩
      (by
        rintro i is ρ ⟨pre, rest, mids, found, x, y, z, e1, e2, e3, e4, e5, e6, rfl⟩
        cases rest with
        | nil => simp at e4
        | cons r rest =>
        cases mids with
        | nil => simp at e3
        | cons m mids =>
        rw [List.length_cons, List.range'_succ] at e4
        cases e4
        have zz : ∀ n : Nat, n ≤ 1000000 → n ≤ sizeLine := fun n => sizeLine_big
        have hl : (pre ++ r :: rest).length ≤ 1000 := by simp at e2 ⊢; omega
        have hl2 : pre.length + (rest.length + 1) ≤ sizeLine := zz _ (by simp at e2; omega)
        refine ⟨_, _, rfl, ?_, ⟨pre ++ [m], rest, mids, found ++ ((if r.1 < m.1 then [pre ++ (r.1, m.1) :: rest] else []) ++ (if m.2 < r.2 then [pre ++ (m.2, r.2) :: rest] else [])), some (.val (.int (pre.length : Int))), some (.val (.int m.2)), some (.val (.int r.2)), by simpa using e1, by simp at e2 ⊢; omega, by simpa using e3, by simp, ?_, ?_, rfl⟩⟩
        · simp only [wSt, eN, List.set, mSeq_ap, mFor_ap]
          rw [e1]
          simp [ix_app, z2]
          have f1 : found.length < sizeLine := Nat.lt_of_lt_of_le (m := 2001) (by simp at e2; omega) (zz _ (by decide))
          have f2 : found.length + 1 < sizeLine := Nat.lt_of_lt_of_le (m := 2002) (by simp at e2; omega) (zz _ (by decide))
          by_cases c1 : r.1 < m.1
          · by_cases c2 : m.2 < r.2
            · simp [forItems_cons, forItems_nil, c1, c2, sl_to, sl_from1, hl2, opAppend, f1, f2, ix_app, z2]
              simp [eB, eP]
            · have c3 : ¬ (m.2 < r.2) := c2
              simp [forItems_cons, forItems_nil, c1, c2, c3, sl_to, sl_from1, hl2, opAppend, f1, f2, ix_app, z2]
              simp [eB, eP]
          · by_cases c2 : m.2 < r.2
            · simp [forItems_cons, forItems_nil, c1, c2, sl_to, sl_from1, hl2, opAppend, f1, f2, ix_app, z2]
              simp [eB, eP]
            · simp [forItems_cons, forItems_nil, c1, c2, sl_to, sl_from1, hl2, opAppend, f1, f2, ix_app, z2]
              simp [eB, eP]
        · simp only [List.length_append, List.length_cons, List.length_nil]
          split <;> split <;> simp <;> omega
        · rw [← e6]
          simp [wo]
          split <;> split <;> simp)
    obtain ⟨ρ', e, ⟨pre, rest, mids, found, x, y, z, e1, e2, e3, e4, e5, e6, rfl⟩⟩ := loop
    have hr : rest = [] := by
      cases rest with
      | nil => rfl
      | cons r rest => simp [List.range'_succ] at e4
    subst hr
    have hm : mids = [] := by
      cases mids with
      | nil => rfl
      | cons r rest => simp at e3
    subst hm
    simp [wo] at e6
    simp [F_without, ofBody, m_without, hs, hnone, mFor_ap]
    rw [sRange1_s (n := a.length) (by simp) hz1]
    simp only [wSt, List.map_nil] at e
    rw [Res.out_ok, e]
    simp [e6]
end Sd.K04
set_option Elab.async false
set_option linter.all false
set_option maxRecDepth 100000
set_option maxHeartbeats 4000000
set_option autoImplicit false
namespace Sd.K04
open PySem PySem.Spec PyProof.Rows L2 C8 Sd

theorem woB_run {n : Nat} {a b : Bx} (ha : good n a) (hb : good n b) (hn : n ≤ 1000) : F_without [eB a, eB b] = .ok (.own (.lst ((woB a b).map eB))) :=
  without_ok a b (ha.2.trans hb.2.symm) ha.1 hb.1 (by rw [ha.2]; exact hn)
theorem few {n : Nat} {ps : List Bx} {K : List Un} (h : ∀ p ∈ ps, good n p) (hd : ps.Pairwise apartB) (hk : ∀ p ∈ ps, ∀ u, inB p u → u ∈ K) : ps.length ≤ K.length := by
  have nd : (ps.map fun b => b.map (·.1)).Nodup := by
    unfold List.Nodup
    rw [List.pairwise_map]
    refine (List.Pairwise.and_mem.mp hd).imp fun {x y} hxy e => ?_
    have h1 := inB_lows (h x hxy.1).1
    have h2 := inB_lows (h y hxy.2.1).1
    rw [← e] at h2
    exact hxy.2.2 _ h1 h2
  have := List.Nodup.length_le_of_subset nd (l₂ := K) (by
    intro u hu
    obtain ⟨p, hp, rfl⟩ := List.mem_map.mp hu
    exact hk p hp _ (inB_lows (h p hp).1))
  simpa using this
theorem sLC_go {α : Type} {vs : List Nat} {it : M (List D)} {tg : Tgt} {cond : M Bool} {dcs : List DCl} {f : M Sl} {ρ : Ev} (ρ1 : Ev) (xs : List α) (enc : α → D) (g : α → List D) (h1 : it ρ = .ok (xs.map enc) ρ1) (hr : restoreE ρ1 (wipeE ρ1 vs) vs = ρ1)
    (h2 : ∀ a ∈ xs, turnC tg cond (compGo (emit1 f) dcs) (enc a) (wipeE ρ1 vs) = .ok (g a) (wipeE ρ1 vs)) (hz : (xs.flatMap g).length ≤ sizeLine) :
    sListComp vs ⟨it, tg, cond⟩ dcs f ρ = .ok (.own (.lst (xs.flatMap g))) ρ1 := by
  rw [sListComp_run (dc := ⟨it, tg, cond⟩) h1 (compItems_map enc h2) hz, hr]
theorem map_flatMap' {α β γ : Type} (f : β → γ) (g : α → List β) (xs : List α) : (xs.flatMap fun a => (g a).map f) = (xs.flatMap g).map f := by
  induction xs with
  | nil => rfl
  | cons x xs ih => rw [List.flatMap_cons, List.flatMap_cons, List.map_append, ih]
theorem cut_run {n : Nat} {ps : List Bx} {o : Bx} {d fo bx : Sl} (hp : ∀ p ∈ ps, good n p) (ho : good n o) (hn : n ≤ 1000) (hz : (cutB ps o).length ≤ sizeLine) :
    sListComp [5, 6] ⟨(sIt (sVar 3)), (.nm 5), bYes⟩ [⟨(sIt (sCall F_without (aC (sVar 5) (aC (sVar 4) aN)))), (.nm 6), bYes⟩] (sVar 6) [some d, some fo, some bx, some (.own (.lst (ps.map eB))), some (.val (eB o)), none, none] =
    .ok (.own (.lst ((cutB ps o).map eB))) [some d, some fo, some bx, some (.val (.list (ps.map eB))), some (.val (eB o)), none, none] := by
  have e := map_flatMap' eB (fun p => woB p o) ps
  rw [sLC_go [some d, some fo, some bx, some (.val (.list (ps.map eB))), some (.val (eB o)), none, none] ps eB (fun p => (woB p o).map eB)]
  · rw [e]; rfl
  · simp
  · simp
  · intro p h
    simp only [turnC, wipeE_cons, wipeE_nil, List.set, assignT_nm, bYes_ap, Res.bind_ok, if_true, compGo_cons, sIt_ap, sCall_ap, aC_ap, sVar_ap, aN_ap, List.getElem?_cons_succ, List.getElem?_cons_zero, frz_val, woB_run (hp p h) ho hn, frz_lst, iterD_l, compGo_nil]
    rw [compItems_map eB (g := fun q => [eB q])]
    · simp [flatMap_one]
    · intro q _
      simp [turnC]
  · rw [e, List.length_map]; exact hz
/-- the inner loop of apart -/
theorem inner_run {n : Nat} (hn : n ≤ 1000) {d bx : Sl} {L : List D} {K : List Un} (hK : K.length ≤ 1000000) : ∀ {os ps : List Bx} {x4 : Option Sl}, (∀ p ∈ ps, good n p) → (∀ o ∈ os, good n o) → ps.Pairwise apartB → (∀ p ∈ ps, ∀ u, inB p u → u ∈ K) →
    ∃ x4' : Option Sl, forItemsO 1 (.nm 4) (mSet 3 (sListComp [5, 6] ⟨(sIt (sVar 3)), (.nm 5), bYes⟩ [⟨(sIt (sCall F_without (aC (sVar 5) (aC (sVar 4) aN)))), (.nm 6), bYes⟩] (sVar 6))) L (os.map eB) [some d, some (.own (.lst L)), some bx, some (.own (.lst (ps.map eB))), x4, none, none] =
      .nx [some d, some (.own (.lst L)), some bx, some (.own (.lst ((os.foldl cutB ps).map eB))), x4', none, none]
  | [], ps, x4, _, _, _, _ => ⟨x4, rfl⟩
  | o :: os, ps, x4, hp, ho, hd, hk => by
    obtain ⟨a1, a2, a3⟩ := cutB_ok hp (ho o (by simp)) hd
    have hk2 : ∀ p ∈ cutB ps o, ∀ u, inB p u → u ∈ K := by
      intro p h u hu
      obtain ⟨⟨q, hq, hv⟩, _⟩ := (a3 u).mp ⟨p, h, hu⟩
      exact hk q hq u hv
    obtain ⟨x4', e⟩ := inner_run hn (d := d) (bx := bx) (L := L) hK (os := os) (x4 := some (.val (eB o))) a1 (fun x hx => ho x (by simp [hx])) a2 hk2
    refine ⟨x4', ?_⟩
    rw [List.map_cons, forItemsO]
    simp only [List.getElem?_cons_succ, List.getElem?_cons_zero, if_true, assignT_nm, List.set, mSet_ap]
    rw [cut_run hp (ho o (by simp)) hn (sizeLine_big (Nat.le_trans (few a1 a2 hk2) hK))]
    simp only [Res.out_ok, List.set, Out.turn_nx, List.getElem?_cons_succ, List.getElem?_cons_zero, if_true]
    exact e
theorem cells_sub {bs : List Bx} {b : Bx} (h : b ∈ bs) : (cells b).length ≤ (bs.flatMap cells).length := by
  induction bs with
  | nil => simp at h
  | cons x bs ih =>
    rw [List.flatMap_cons, List.length_append]
    rcases List.mem_cons.mp h with rfl | h
    · omega
    · have := ih h; omega
theorem apart_ok {n : Nat} {bs : List Bx} {d : D} (hit : iterD d = some (bs.map eB)) (h : ∀ b ∈ bs, good n b) (hn : n ≤ 1000) (hz : (bs.flatMap cells).length ≤ 1000000) : F_apart [d] = .ok (.own (.lst ((apB bs).map eB))) := by
  have one1 : 1 ≤ sizeLine := sizeLine_big (by decide)
  have loop : ∀ {os found : List Bx} {x2 x3 x4 : Option Sl}, (∀ p ∈ found, good n p) → (∀ o ∈ os, good n o) → found.Pairwise apartB → (∀ o ∈ os, o ∈ bs) → (∀ p ∈ found, ∀ u, inB p u → u ∈ bs.flatMap cells) →
      ∃ x2' x3' x4' : Option Sl, forItems (.nm 2) (mSeq (mSet 3 (sLst (aC (sVar 2) aN))) (mSeq (mForO 1 (.nm 4) (mSet 3 (sListComp [5, 6] ⟨(sIt (sVar 3)), (.nm 5), bYes⟩ [⟨(sIt (sCall F_without (aC (sVar 5) (aC (sVar 4) aN)))), (.nm 6), bYes⟩] (sVar 6)))) (mDrop (sLM opExtend 1 (aC (sVar 3) aN))))) (os.map eB) [some (.val d), some (.own (.lst (found.map eB))), x2, x3, x4, none, none] =
        .nx [some (.val d), some (.own (.lst ((os.foldl apStep found).map eB))), x2', x3', x4', none, none] := by
    intro os
    induction os with
    | nil => intro found x2 x3 x4 _ _ _ _ _; exact ⟨x2, x3, x4, rfl⟩
    | cons o os ih =>
      intro found x2 x3 x4 hf ho hd hs hk
      obtain ⟨a1, a2, a3⟩ := cuts_ok (os := found) (ps := [o]) (by intro p h; simp at h; subst h; exact ho _ (by simp)) hf (by simp)
      have ob : o ∈ bs := hs o (by simp)
      have hcz := cells_sub ob
      obtain ⟨x4', e⟩ := inner_run hn (d := .val d) (bx := .val (eB o)) (L := found.map eB) (K := cells o) (by omega) (os := found) (ps := [o]) (x4 := x4) (by intro p h; simp at h; subst h; exact ho _ (by simp)) hf (by simp) (by intro p h u hu; simp at h; subst h; exact (mem_cells p u).mpr hu)
      have g1 : ∀ p ∈ apStep found o, good n p := by
        intro p h
        rcases List.mem_append.mp h with h | h
        · exact hf p h
        · exact a1 p h
      have g2 : (apStep found o).Pairwise apartB := by
        refine List.pairwise_append.mpr ⟨hd, a2, fun x hx y hy u hu hv => ?_⟩
        exact ((a3 u).mp ⟨y, hy, hv⟩).2 x hx hu
      have g3 : ∀ p ∈ apStep found o, ∀ u, inB p u → u ∈ bs.flatMap cells := by
        intro p h u hu
        rcases List.mem_append.mp h with h | h
        · exact hk p h u hu
        · obtain ⟨⟨q, hq, hv⟩, _⟩ := (a3 u).mp ⟨p, h, hu⟩
          simp at hq; subst hq
          exact List.mem_flatMap.mpr ⟨q, ob, (mem_cells q u).mpr hv⟩
      have hlen := few g1 g2 g3
      have hlen2 : found.length + (found.foldl cutB [o]).length ≤ sizeLine := sizeLine_big (by
        unfold apStep at hlen
        rw [List.length_append] at hlen
        omega)
      obtain ⟨y2, y3, y4, e2⟩ := ih (x2 := some (.val (eB o))) (x3 := some (.val (.list ((found.foldl cutB [o]).map eB)))) (x4 := x4') g1 (fun x hx => ho x (by simp [hx])) g2 (fun x hx => hs x (by simp [hx])) g3
      refine ⟨y2, y3, y4, ?_⟩
      rw [List.map_cons, forItems_cons]
      simp only [assignT_nm, List.set, mSeq_ap, mSet_ap, sLst_ap, aC_ap, sVar_ap, aN_ap, List.getElem?_cons_succ, List.getElem?_cons_zero, Res.bind_ok, frz_val, List.length_cons, List.length_nil, Nat.zero_add, if_pos one1, Res.out_ok, Out.seq_nx, mForO]
      have e' : forItemsO 1 (Tgt.nm 4) (mSet 3 (sListComp [5, 6] ⟨(sIt (sVar 3)), (.nm 5), bYes⟩ [⟨(sIt (sCall F_without (aC (sVar 5) (aC (sVar 4) aN)))), (.nm 6), bYes⟩] (sVar 6))) (found.map eB) (found.map eB) [some (.val d), some (.own (.lst (found.map eB))), some (.val (eB o)), some (.own (.lst [eB o])), x4, none, none] = _ := e
      rw [e']
      simp only [Out.seq_nx, mDrop_ap, sLM_ap, aC_ap, sVar_ap, aN_ap, List.getElem?_cons_succ, List.getElem?_cons_zero, Res.bind_ok, frz_val, obfrz_lst, List.set, opExtend, List.length_map, if_pos hlen2, Res.out_ok, Out.turn_nx]
      have e3 : found.map eB ++ (found.foldl cutB [o]).map eB = (apStep found o).map eB := by simp [apStep]
      rw [e3]
      exact e2
  obtain ⟨x2, x3, x4, e⟩ := loop (os := bs) (found := []) (x2 := none) (x3 := none) (x4 := none) (by simp) h (by simp) (fun _ h => h) (by simp)
  simp [F_apart, ofBody, m_apart, mFor_ap, hit]
  simp only [List.map_nil] at e
  rw [e]
  simp [apB]
end Sd.K04
set_option Elab.async false
set_option linter.all false
set_option maxRecDepth 100000
set_option maxHeartbeats 4000000
set_option autoImplicit false
namespace Sd.K04
open PySem PySem.Spec PyProof.Rows L2 C8 Sd

theorem room_fold (b : Bx) (x : Int) : (b.foldl (fun r p => r * (p.2 - p.1)) x) = x * roomB b := by
  induction b generalizing x with
  | nil => simp [roomB]
  | cons p b ih => rw [List.foldl_cons, ih]; show _ = x * ((p.2 - p.1) * roomB b); rw [Int.mul_assoc]
def small (b : Bx) : Prop := ∀ p ∈ b, p.2 - p.1 ≤ 1000000
theorem room_ok (b : Bx) (hb : small b) (ho : okB b) : F_room_of [eB b] = .ok (.val (.int (roomB b))) := by
  have loop : ∀ (c : Bx) (x : Int) (y z : Option Sl), small c → okB c → ∃ y' z' : Option Sl, forItems (.tup [(.nm 2), (.nm 3)]) (mSet 1 (sOp2 pRep (.nm 1) (.ex (sOp2 pSub (.nm 3) (.nm 2))))) (c.map eP) [some (.val (eB b)), some (.val (.int x)), y, z] = .nx [some (.val (eB b)), some (.val (.int (c.foldl (fun r p => r * (p.2 - p.1)) x))), y', z'] := by
    intro c
    induction c with
    | nil => intro x y z _ _; exact ⟨y, z, rfl⟩
    | cons p c ih =>
      intro x y z h h'
      obtain ⟨y', z', e⟩ := ih (x * (p.2 - p.1)) (some (.val (.int p.1))) (some (.val (.int p.2))) (fun q hq => h q (by simp [hq])) (fun q hq => h' q (by simp [hq]))
      refine ⟨y', z', ?_⟩
      have h1 := h p (by simp)
      have h2 := h' p (by simp)
      have hr : pRep (.int x) (.int (p.2 - p.1)) = some (.val (.int (x * (p.2 - p.1)))) := by
        unfold pRep
        simp only
        have e64 : (2 : Int) ^ 64 = 18446744073709551616 := by decide
        have q1 : -(2 ^ 64) < p.2 - p.1 := by rw [e64]; omega
        have q2 : p.2 - p.1 < 2 ^ 64 := by rw [e64]; omega
        rw [if_pos (.inr ⟨q1, q2⟩)]
        rfl
      rw [List.map_cons, forItems_cons]
      simp [eP, hr]
      exact e
  obtain ⟨y', z', e⟩ := loop b 1 none none hb ho
  simp [F_room_of, ofBody, m_room_of, mFor_ap]
  rw [e]
  simp [room_fold]
theorem ints_map (xs : List Int) : intsD (xs.map .int) = some xs := by
  induction xs with
  | nil => rfl
  | cons x xs ih => simp [intsD, ih]
theorem room_small {n : Nat} {b : Bx} (h : good n b) (hz : (cells b).length ≤ 1000000) : small b := by
  intro p hp
  have key : ∀ {b : Bx}, okB b → ∀ p ∈ b, (ran p).length ≤ (cells b).length := by
    intro b
    induction b with
    | nil => intro _ p hp; simp at hp
    | cons q b ih =>
      intro hb p hp
      have e : (cells (q :: b)).length = (ran q).length * (cells b).length := by
        simp only [cells]
        generalize ran q = l
        induction l with
        | nil => simp
        | cons x l ihl => rw [List.flatMap_cons, List.length_append, List.length_map, ihl, List.length_cons, Nat.succ_mul, Nat.add_comm]
      have h1 : 1 ≤ (cells b).length := List.length_pos_iff.mpr (List.ne_nil_of_mem ((mem_cells b _).mpr (inB_lows (okB_cons.mp hb).2)))
      have h2 : 1 ≤ (ran q).length := List.length_pos_iff.mpr (List.ne_nil_of_mem ((mem_ran q q.1).mpr ⟨Int.le_refl _, (okB_cons.mp hb).1⟩))
      rw [e]
      rcases List.mem_cons.mp hp with rfl | hp
      · exact Nat.le_mul_of_pos_right _ h1
      · exact Nat.le_trans (ih (okB_cons.mp hb).2 p hp) (Nat.le_mul_of_pos_left _ h2)
  have := key h.1 p hp
  simp [ran] at this
  omega
theorem volume_ok {n : Nat} {bs : List Bx} {d : D} (hit : iterD d = some (bs.map eB)) (h : ∀ b ∈ bs, good n b) (hn : n ≤ 1000) (hz : (bs.flatMap cells).length ≤ 1000000) : F_volume [d] = .ok (.val (.int (volB bs))) := by
  obtain ⟨a1, a2, a3⟩ := aps_ok (found := []) (by simp) h (by simp)
  have hk : ∀ p ∈ apB bs, ∀ u, inB p u → u ∈ bs.flatMap cells := by
    intro p hp u hu
    have := (a3 u).mp ⟨p, hp, hu⟩
    simp only [List.not_mem_nil, false_and, exists_false, false_or] at this
    obtain ⟨b, h1, h2⟩ := this
    exact List.mem_flatMap.mpr ⟨b, h1, (mem_cells b u).mpr h2⟩
  have hlen := few a1 a2 hk
  have hsm : ∀ b ∈ apB bs, small b := by
    intro b hb
    refine room_small (a1 b hb) ?_
    exact Nat.le_trans (List.Nodup.length_le_of_subset (nodup_cells b) fun u hu => hk b hb u ((mem_cells b u).mp hu)) hz
  simp [F_volume, ofBody, m_volume]
  rw [sLC_one (apB bs) eB (fun b => .int (roomB b))]
  · have e : intsD ((apB bs).map fun b => PyData.int (roomB b)) = some ((apB bs).map roomB) := by
      rw [show ((apB bs).map fun b => PyData.int (roomB b)) = ((apB bs).map roomB).map .int by rw [List.map_map]; rfl]
      exact ints_map _
    simp [e, pSum, vI, volB]
  · simp [apart_ok hit h hn hz]
  · simp
  · intro b hb
    simp [turnC, room_ok b (hsm b hb) (a1 b hb).1]
  · exact sizeLine_big (by unfold apB at *; omega)
theorem same_room_ok {n : Nat} {as bs : List Bx} (ha : ∀ b ∈ as, good n b) (hb : ∀ b ∈ bs, good n b) (hn : n ≤ 1000) (hz : ((as ++ bs).flatMap cells).length ≤ 1000000) (hl : (as ++ bs).length ≤ 1000000) :
    F_same_room [eT as, eT bs] = .ok (.val (.bool (decide (volB as = volB (as ++ bs)) && decide (volB bs = volB (as ++ bs))))) := by
  have hab : ∀ b ∈ as ++ bs, good n b := by
    intro b h
    rcases List.mem_append.mp h with h | h
    · exact ha b h
    · exact hb b h
  have hz2 := hz
  rw [List.flatMap_append, List.length_append] at hz2
  have v1 : F_volume [.list (as.map eB ++ bs.map eB)] = .ok (.val (.int (volB (as ++ bs)))) := volume_ok (by simp) hab hn hz
  have v2 : F_volume [eT as] = .ok (.val (.int (volB as))) := volume_ok (by simp) ha hn (by omega)
  have v3 : F_volume [eT bs] = .ok (.val (.int (volB bs))) := volume_ok (by simp) hb hn (by omega)
  have hl2 : as.length + bs.length ≤ sizeLine := sizeLine_big (by simpa using hl)
  simp [F_same_room, ofBody, m_same_room, v1, v2, v3, hl2]
  by_cases q : volB as = volB (as ++ bs)
  · simp [q]
    rfl
  · simp [q]
end Sd.K04
set_option Elab.async false
set_option linter.all false
set_option maxRecDepth 100000
set_option maxHeartbeats 4000000
set_option autoImplicit false
namespace Sd.K04
open PySem PySem.Spec PyProof.Rows L2 C8 Sd

def eU (u : Un) : D := .tuple (u.map eI)
theorem eqvAll_ints : ∀ u v : Un, PyData.eqvAll (u.map eI) (v.map eI) = decide (u = v)
  | [], [] => by simp [PyData.eqvAll]
  | [], _ :: _ => by simp [PyData.eqvAll]
  | _ :: _, [] => by simp [PyData.eqvAll]
  | x :: u, y :: v => by
    rw [List.map_cons, List.map_cons, PyData.eqvAll, eqvAll_ints u v]
    by_cases h : x = y <;> simp [eI, h]
theorem eqv_eU (u v : Un) : PyData.eqv (eU u) (eU v) = decide (u = v) := by
  unfold eU
  rw [PyData.eqv, eqvAll_ints]
def rowsF (rows : List Un) (p : Int × Int) : List Un := rows.flatMap fun r => (ran p).map fun i => r ++ [i]
theorem rows_cells : ∀ (b : Bx) (R : List Un), b.foldl rowsF R = R.flatMap fun r => (cells b).map fun u => r ++ u
  | [], R => by
    simp only [List.foldl_nil, cells, List.map_cons, List.map_nil, List.append_nil]
    rw [flatMap_one]; simp
  | p :: b, R => by
    rw [List.foldl_cons, rows_cells b]
    simp only [rowsF, cells, List.flatMap_assoc, List.flatMap_map, List.map_flatMap, List.map_map]
    congr 1
    funext r
    congr 1
    funext i
    simp [Function.comp_def]
theorem rows_all (b : Bx) : b.foldl rowsF [[]] = cells b := by
  rw [rows_cells]; simp
theorem rows_grow : ∀ {b : Bx} (R : List Un), okB b → R.length ≤ (b.foldl rowsF R).length
  | [], R, _ => Nat.le_refl _
  | p :: b, R, h => by
    refine Nat.le_trans ?_ (rows_grow (rowsF R p) (okB_cons.mp h).2)
    have h2 : 1 ≤ (ran p).length := List.length_pos_iff.mpr (List.ne_nil_of_mem ((mem_ran p p.1).mpr ⟨Int.le_refl _, (okB_cons.mp h).1⟩))
    unfold rowsF
    clear h
    induction R with
    | nil => simp
    | cons r R ih => rw [List.flatMap_cons, List.length_append, List.length_map, List.length_cons]; omega
def coo (b : Bx) : Prop := ∀ p ∈ b, -1000000 ≤ p.1 ∧ p.2 ≤ 1000000
theorem range2_n (p : Int × Int) (h : p.1 < p.2) (h1 : -1000000 ≤ p.1) (h2 : p.2 ≤ 1000000) : range2Of [.int p.1, .int p.2] = some ((ran p).map eI) := by
  have e : (2 : Int) ^ 62 = 4611686018427387904 := by decide
  have h1 : -(2 ^ 62) ≤ p.1 ∧ p.1 < 2 ^ 62 ∧ -(2 ^ 62) ≤ p.2 ∧ p.2 < 2 ^ 62 := by rw [e]; refine ⟨?_, ?_, ?_, ?_⟩ <;> omega
  unfold range2Of
  simp only
  rw [if_pos h1]
  simp [rangeD, ran, eI, Function.comp_def]
theorem sRange2_s {as : M (List D)} {ρ : Ev} {p : Int × Int} (h : as ρ = .ok [.int p.1, .int p.2] ρ) (hp : p.1 < p.2) (h1 : -1000000 ≤ p.1) (h2 : p.2 ≤ 1000000) : sRange2 as ρ = .ok ((ran p).map eI) ρ := by
  unfold sRange2
  rw [h, Res.bind_ok, range2_n p hp h1 h2]
  exact Res.ofO_some _ _
theorem ran_len (p : Int × Int) (h1 : -1000000 ≤ p.1) (h2 : p.2 ≤ 1000000) : (ran p).length ≤ 2000000 := by
  simp [ran]; omega
/-- the loop over the rows -/
theorem row_loop (p : Int × Int) (hp : p.1 < p.2) (h1 : -1000000 ≤ p.1) (h2 : p.2 ≤ 1000000) (a0 a1 a2 a3 : Sl) : ∀ (rows W : List Un) (x7 : Option Sl), (∀ r ∈ rows, r.length ≤ 1000) → (W ++ rowsF rows p).length ≤ 1000000 →
    ∃ x7' : Option Sl, forItems (.nm 7) (mSet 6 (sOp2 pAdd (.nm 6) (.ex (sListComp [8] ⟨(sRange2 (aC (sVar 4) (aC (sVar 5) aN))), (.nm 8), bYes⟩ [] (sOp2 pAdd (.nm 7) (.ex (sTup (aC (sVar 8) aN)))))))) (rows.map eU) [some a0, some a1, some a2, some a3, some (.val (.int p.1)), some (.val (.int p.2)), some (.own (.lst (W.map eU))), x7, none] =
      .nx [some a0, some a1, some a2, some a3, some (.val (.int p.1)), some (.val (.int p.2)), some (.own (.lst ((W ++ rowsF rows p).map eU))), x7', none]
  | [], W, x7, _, _ => ⟨x7, by simp [rowsF, forItems_nil]⟩
  | r :: rows, W, x7, hr, hz => by
    have ez : W ++ rowsF (r :: rows) p = (W ++ (ran p).map fun i => r ++ [i]) ++ rowsF rows p := by simp [rowsF]
    rw [ez] at hz ⊢
    obtain ⟨x7', e⟩ := row_loop p hp h1 h2 a0 a1 a2 a3 rows (W ++ (ran p).map fun i => r ++ [i]) (some (.val (eU r))) (fun x hx => hr x (by simp [hx])) hz
    refine ⟨x7', ?_⟩
    have one1 : 1 ≤ sizeLine := sizeLine_big (by decide)
    have hr1 : r.length + 1 ≤ sizeLine := sizeLine_big (by have := hr r (by simp); omega)
    have hz1 : W.length + (ran p).length ≤ sizeLine := sizeLine_big (by simp only [List.length_append, List.length_map] at hz; omega)
    have hc : sListComp [8] ⟨(sRange2 (aC (sVar 4) (aC (sVar 5) aN))), (.nm 8), bYes⟩ [] (sOp2 pAdd (.nm 7) (.ex (sTup (aC (sVar 8) aN)))) [some a0, some a1, some a2, some a3, some (.val (.int p.1)), some (.val (.int p.2)), some (.own (.lst (W.map eU))), some (.val (eU r)), none] = .ok (.own (.lst ((ran p).map fun i => eU (r ++ [i])))) [some a0, some a1, some a2, some a3, some (.val (.int p.1)), some (.val (.int p.2)), some (.own (.lst (W.map eU))), some (.val (eU r)), none] := by
      rw [sLC_one (ran p) eI (fun i => eU (r ++ [i]))]
      · exact sRange2_s (p := p) (by simp) hp h1 h2
      · simp
      · intro i _
        simp [turnC, one1, eU, eI, pAdd, hr1]
      · omega
    rw [List.map_cons, forItems_cons]
    simp only [assignT_nm, List.set, mSet_ap, sOp2_ap, ph1_nm, List.getElem?_cons_succ, List.getElem?_cons_zero, Res.bind_ok, ph1_ex, hc, frz_lst, ph2_nm, ph2_ex, Option.bind_some, pAdd, List.length_map, if_pos hz1, Res.ofO_some, Res.out_ok, Out.turn_nx]
    have e3 : W.map eU ++ (ran p).map (fun i => eU (r ++ [i])) = (W ++ (ran p).map fun i => r ++ [i]).map eU := by simp [Function.comp_def]
    rw [e3]
    exact e
end Sd.K04
set_option Elab.async false
set_option linter.all false
set_option maxRecDepth 100000
set_option maxHeartbeats 4000000
set_option autoImplicit false
namespace Sd.K04
open PySem PySem.Spec PyProof.Rows L2 C8 Sd

def P3 (rows : List Un) (s : Sl) : Prop := s = .val (.list (rows.map eU)) ∨ s = .own (.lst (rows.map eU))
theorem it3 {rows : List Un} {s a0 a1 a2 : Sl} {x4 x5 x6 x7 x8 : Option Sl} (h : P3 rows s) : (sIt (sVar 3)) [some a0, some a1, some a2, some s, x4, x5, x6, x7, x8] = .ok (rows.map eU) [some a0, some a1, some a2, some (.val (.list (rows.map eU))), x4, x5, x6, x7, x8] := by
  rcases h with rfl | rfl <;> simp
/-- the loop over the axes -/
theorem axis_loop (a0 a1 bx : Sl) : ∀ (c : Bx) (rows : List Un) (k : Nat) (s : Sl) (x4 x5 x6 x7 : Option Sl), P3 rows s → okB c → coo c → (∀ r ∈ rows, r.length = k) → k + c.length ≤ 1000 → (c.foldl rowsF rows).length ≤ 1000000 →
    ∃ (x4' x5' x6' x7' : Option Sl) (s' : Sl), P3 (c.foldl rowsF rows) s' ∧ forItems (.tup [(.nm 4), (.nm 5)]) (mSeq (mSet 6 (sLst aN)) (mSeq (mFor (sIt (sVar 3)) (.nm 7) (mSet 6 (sOp2 pAdd (.nm 6) (.ex (sListComp [8] ⟨(sRange2 (aC (sVar 4) (aC (sVar 5) aN))), (.nm 8), bYes⟩ [] (sOp2 pAdd (.nm 7) (.ex (sTup (aC (sVar 8) aN))))))))) (mSet 3 (sVar 6)))) (c.map eP) [some a0, some a1, some bx, some s, x4, x5, x6, x7, none] = .nx [some a0, some a1, some bx, some s', x4', x5', x6', x7', none]
  | [], rows, k, s, x4, x5, x6, x7, h, _, _, _, _, _ => ⟨x4, x5, x6, x7, s, h, rfl⟩
  | p :: c, rows, k, s, x4, x5, x6, x7, h, ho, hc, hr, hk, hz => by
    have h1 := (okB_cons.mp ho).1
    have h2 := hc p (by simp)
    have hz2 : (rowsF rows p).length ≤ 1000000 := Nat.le_trans (rows_grow _ (okB_cons.mp ho).2) hz
    simp only [List.length_cons] at hk
    obtain ⟨y7, e⟩ := row_loop p h1 h2.1 h2.2 a0 a1 bx (.val (.list (rows.map eU))) rows [] x7 (fun r hr' => by have := hr r hr'; omega) (by simpa using hz2)
    obtain ⟨z4, z5, z6, z7, s', q, e2⟩ := axis_loop a0 a1 bx c (rowsF rows p) (k + 1) (.val (.list ((rowsF rows p).map eU))) (some (.val (.int p.1))) (some (.val (.int p.2))) (some (.val (.list ((rowsF rows p).map eU)))) y7 (.inl rfl) (okB_cons.mp ho).2 (fun x hx => hc x (by simp [hx])) (by
      intro r hr'
      obtain ⟨r0, h0, h3⟩ := List.mem_flatMap.mp hr'
      obtain ⟨i, _, rfl⟩ := List.mem_map.mp h3
      simp [hr r0 h0]) (by omega) hz
    refine ⟨z4, z5, z6, z7, s', q, ?_⟩
    have e0 : (0 : Nat) ≤ sizeLine := Nat.zero_le _
    simp only [List.map_nil, List.nil_append] at e
    rw [List.map_cons, forItems_cons]
    simp only [eP, assignT_tup, assignTs_cons, assignTs_nil, assignT_nm, Option.bind_some, List.set, mSeq_ap, mSet_ap, sLst_ap, aN_ap, Res.bind_ok, List.length_nil, if_pos e0, Res.out_ok, Out.seq_nx, mFor_ap, it3 h, e, sVar_ap, List.getElem?_cons_succ, List.getElem?_cons_zero, obfrz_lst, Out.turn_nx]
    exact e2
/-- a row of unit cells put into the dict -/
def insU (U : List Un) (u : Un) : List Un := if u ∈ U then U else U ++ [u]
def eD (U : List Un) : List (D × D) := U.map fun u => (eU u, PyData.int 1)
theorem look_eD (U : List Un) (u : Un) : (lookD (eD U) (eU u)).isSome = decide (u ∈ U) := by
  unfold lookD eD
  induction U with
  | nil => rfl
  | cons v U ih =>
    rw [List.map_cons, List.find?_cons]
    simp only [eqv_eU]
    by_cases h : v = u
    · simp [h]
    · have h' : ¬ u = v := fun e => h e.symm
      simp only [h, decide_false, List.mem_cons, h', false_or]
      exact ih
theorem store_eD (U : List Un) (u : Un) : storeD (eD U) (eU u) (.int 1) = eD (insU U u) := by
  unfold storeD insU
  rw [look_eD]
  by_cases h : u ∈ U
  · simp only [h, decide_true, if_true]
    unfold eD
    rw [List.map_map]
    refine List.map_congr_left fun v _ => ?_
    simp only [Function.comp_apply]
    split <;> rfl
  · simp [h, eD]
theorem insU_ok {U : List Un} {u : Un} (h : U.Nodup) : (insU U u).Nodup ∧ ∀ v, v ∈ insU U u ↔ v ∈ U ∨ v = u := by
  unfold insU
  split
  · rename_i hu
    refine ⟨h, fun v => ⟨.inl, ?_⟩⟩
    rintro (h | rfl)
    · exact h
    · exact hu
  · rename_i hu
    refine ⟨?_, fun v => by simp⟩
    rw [List.nodup_append]
    refine ⟨h, by simp, ?_⟩
    intro a ha b hb e
    simp at hb
    subst hb; subst e
    exact hu ha
theorem keysN_map (u : Un) : keysN (u.map eI) = some (u.map NestedKey.num) := by
  induction u with
  | nil => rfl
  | cons i u ih => rw [List.map_cons, keysN, ih]; rfl
theorem depth_nums (u : Un) : NestedKey.depthAll (u.map NestedKey.num) ≤ 1 := by
  induction u with
  | nil => simp [NestedKey.depthAll]
  | cons i u ih =>
    simp only [List.map_cons, NestedKey.depthAll, NestedKey.depth]
    omega
theorem tup_eU (u : Un) : (tupKey (eU u)).isSome = true := by
  have h : keyN (eU u) = some (.tup (u.map NestedKey.num)) := by
    unfold eU keyN
    rw [keysN_map]
    rfl
  unfold tupKey
  rw [h]
  simp only
  rw [if_pos]
  · rfl
  · have := depth_nums u
    simp only [NestedKey.depth]
    omega
theorem allTup_eD (U : List Un) : allTup (eD U) = true := by
  unfold allTup eD
  rw [List.all_map, List.all_eq_true]
  intro u _
  rfl
theorem storeOb_eD (U : List Un) (u : Un) (h : U.length < sizeLine) : storeOb (.dct (eD U)) (eU u) (.int 1) = some (.dct (eD (insU U u))) := by
  obtain ⟨k, hk⟩ := Option.isSome_iff_exists.mp (tup_eU u)
  show ((tupKey (eU u)).bind fun _ => if allTup (eD U) = true ∧ (eD U).length < sizeLine then some (Ob.dct (storeD (eD U) (eU u) (.int 1))) else none) = _
  rw [hk, Option.bind_some, if_pos ⟨allTup_eD U, by simpa [eD] using h⟩, store_eD]
/-- the loop that stores -/
theorem store_loop (a0 a2 a3 : Sl) (x4 x5 x6 : Option Sl) : ∀ (rows U : List Un) (x7 : Option Sl), U.Nodup → U.length + rows.length ≤ 10000000 →
    ∃ (x7' : Option Sl) (V : List Un), V.Nodup ∧ V.length ≤ U.length + rows.length ∧ (∀ v, v ∈ V ↔ v ∈ U ∨ v ∈ rows) ∧ forItems (.nm 7) (mStore 1 (sVar 7) (sC (.int 1))) (rows.map eU) [some a0, some (.own (.dct (eD U))), some a2, some a3, x4, x5, x6, x7, none] = .nx [some a0, some (.own (.dct (eD V))), some a2, some a3, x4, x5, x6, x7', none]
  | [], U, x7, hn, _ => ⟨x7, U, hn, by simp, by simp, rfl⟩
  | r :: rows, U, x7, hn, hz => by
    obtain ⟨i1, i2⟩ := insU_ok (u := r) hn
    have i3 : (insU U r).length ≤ U.length + 1 := by unfold insU; split <;> simp
    simp only [List.length_cons] at hz ⊢
    obtain ⟨x7', V, v1, v2, v3, e⟩ := store_loop a0 a2 a3 x4 x5 x6 rows (insU U r) (some (.val (eU r))) i1 (by omega)
    have hs : U.length < sizeLine := by rw [sizeLine_eq]; omega
    refine ⟨x7', V, v1, by omega, fun v => ?_, ?_⟩
    · rw [v3 v, i2 v]; simp [or_assoc]
    · rw [List.map_cons, forItems_cons]
      simp only [assignT_nm, List.set, mStore_ap, sC_ap, Res.out_ok, List.getElem?_cons_succ, List.getElem?_cons_zero, sVar_ap, frz_val, storeOb_eD U r hs, Out.turn_nx]
      exact e
theorem units_ok {n : Nat} {bs : List Bx} {d : D} (hit : iterD d = some (bs.map eB)) (h : ∀ b ∈ bs, good n b) (hc : ∀ b ∈ bs, coo b) (hn : n ≤ 1000) (hz : (bs.flatMap cells).length ≤ 1000000) : ∃ U : List Un, unitsOf bs U ∧ U.length ≤ 1000000 ∧ F__law_units [d] = .ok (.own (.dct (eD U))) := by
  have one1 : 1 ≤ sizeLine := sizeLine_big (by decide)
  have e0 : (0 : Nat) ≤ sizeLine := Nat.zero_le _
  have loop : ∀ (os : List Bx) (U : List Un) (x2 x3 x4 x5 x6 x7 : Option Sl), (∀ o ∈ os, good n o) → (∀ o ∈ os, coo o) → U.Nodup → U.length + (os.flatMap cells).length ≤ 1000000 →
      ∃ (y2 y3 y4 y5 y6 y7 : Option Sl) (V : List Un), V.Nodup ∧ V.length ≤ 1000000 ∧ (∀ v, v ∈ V ↔ v ∈ U ∨ ∃ o ∈ os, inB o v) ∧ forItems (.nm 2) (mSeq (mSet 3 (sLst (aC (sTup aN) aN))) (mSeq (mFor (sIt (sVar 2)) (.tup [(.nm 4), (.nm 5)]) (mSeq (mSet 6 (sLst aN)) (mSeq (mFor (sIt (sVar 3)) (.nm 7) (mSet 6 (sOp2 pAdd (.nm 6) (.ex (sListComp [8] ⟨(sRange2 (aC (sVar 4) (aC (sVar 5) aN))), (.nm 8), bYes⟩ [] (sOp2 pAdd (.nm 7) (.ex (sTup (aC (sVar 8) aN))))))))) (mSet 3 (sVar 6))))) (mFor (sIt (sVar 3)) (.nm 7) (mStore 1 (sVar 7) (sC (.int 1)))))) (os.map eB) [some (.val d), some (.own (.dct (eD U))), x2, x3, x4, x5, x6, x7, none] = .nx [some (.val d), some (.own (.dct (eD V))), y2, y3, y4, y5, y6, y7, none] := by
    intro os
    induction os with
    | nil => intro U x2 x3 x4 x5 x6 x7 _ _ hn hz; exact ⟨x2, x3, x4, x5, x6, x7, U, hn, by omega, by simp, rfl⟩
    | cons o os ih =>
      intro U x2 x3 x4 x5 x6 x7 hg hco hnd hz
      rw [List.flatMap_cons, List.length_append] at hz
      have ho := hg o (by simp)
      have p0 : P3 [[]] (.own (.lst [.tuple []])) := .inr rfl
      obtain ⟨z4, z5, z6, z7, s', q, e⟩ := axis_loop (.val d) (.own (.dct (eD U))) (.val (eB o)) o [[]] 0 (.own (.lst [.tuple []])) x4 x5 x6 x7 p0 ho.1 (hco o (by simp)) (by simp) (by have := ho.2; omega) (by rw [rows_all]; omega)
      rw [rows_all] at q
      obtain ⟨z7', V, v1, v2, v3, e2⟩ := store_loop (.val d) (.val (eB o)) (.val (.list ((cells o).map eU))) z4 z5 z6 (cells o) U z7 hnd (by omega)
      obtain ⟨y2, y3, y4, y5, y6, y7, W, w1, w2, w3, e3⟩ := ih V (some (.val (eB o))) (some (.val (.list ((cells o).map eU)))) z4 z5 z6 z7' (fun x hx => hg x (by simp [hx])) (fun x hx => hco x (by simp [hx])) v1 (by omega)
      refine ⟨y2, y3, y4, y5, y6, y7, W, w1, w2, fun v => ?_, ?_⟩
      · rw [w3 v, v3 v, mem_cells]
        simp [or_assoc]
      · rw [List.map_cons, forItems_cons]
        simp only [assignT_nm, List.set, mSeq_ap, mSet_ap, sLst_ap, sTup_ap, aC_ap, aN_ap, Res.bind_ok, List.length_nil, if_pos e0, frz_val, List.length_cons, Nat.zero_add, if_pos one1, Res.out_ok, Out.seq_nx, mFor_ap, sIt_ap, sVar_ap, List.getElem?_cons_succ, List.getElem?_cons_zero, iterD_B]
        rw [e]
        simp only [Out.seq_nx]
        have e5 := it3 (a0 := .val d) (a1 := .own (.dct (eD U))) (a2 := .val (eB o)) (x4 := z4) (x5 := z5) (x6 := z6) (x7 := z7) (x8 := none) q
        rw [mFor_ap, e5, Res.out_ok, e2, Out.turn_nx]
        exact e3
  obtain ⟨y2, y3, y4, y5, y6, y7, V, v1, v2, v3, e⟩ := loop bs [] none none none none none none h hc (by simp) (by simpa using hz)
  refine ⟨V, ⟨v1, fun u => by rw [v3 u]; simp⟩, v2, ?_⟩
  simp only [eD, List.map_nil] at e
  simp [F__law_units, ofBody, m__law_units, mFor_ap, hit]
  rw [e]
  simp [eD]
end Sd.K04
set_option Elab.async false
set_option linter.all false
set_option maxRecDepth 100000
set_option maxHeartbeats 4000000
set_option autoImplicit false
/-! order and sorting of data that can be compared. -/
namespace Sd
open PySem PySem.Spec PyProof.Rows L2 PySem.W
/-- a kind of data: any two can be compared, and are equal when Python says so -/
structure Ordd (S : D → Prop) : Prop where
  al : ∀ x y, S x → S y → alike x y = true
  eq : ∀ x y, S x → S y → PyData.eqv x y = true → x = y
  rf : ∀ x, S x → PyData.eqv x x = true
theorem toks_ne {x y : D} (h : alike x y = true) (e : PyData.eqv x y = false) : keyToks x ≠ keyToks y := by
  intro q
  have h1 := (toks_eqv x y h).2 e [] [.inl 0]
  rw [q] at h1
  have h2 := lex_pre (keyToks y) [] [Sum.inl 0]
  rw [h2] at h1
  have h3 := lex_irrefl (O := itemOrd) (keyToks y)
  rw [h3] at h1
  exact absurd h1 (by decide)
theorem lt_irr (x : D) : dataLt x x = false := lex_irrefl _
theorem lt_trans' {x y z : D} (h1 : dataLt x y = true) (h2 : dataLt y z = true) : dataLt x z = true := lex_trans _ _ _ h1 h2
theorem lt_asymm {x y : D} (h1 : dataLt x y = true) : dataLt y x = false := by
  cases h : dataLt y x with
  | false => rfl
  | true =>
    have := lt_trans' h1 h
    rw [lt_irr] at this
    cases this
theorem Ordd.tot {S : D → Prop} (o : Ordd S) {x y : D} (hx : S x) (hy : S y) (h1 : dataLt x y = false) (h2 : dataLt y x = false) : x = y := by
  refine o.eq x y hx hy ?_
  cases e : PyData.eqv x y with
  | true => rfl
  | false => exact absurd (lex_total _ _ h1 h2) (toks_ne (o.al x y hx hy) e)
theorem dataLe_not (x y : D) : dataLe false (fun d : D => d) x y = !dataLt y x := rfl
theorem sort_pw (xs : List D) : (sortD xs).Pairwise fun x y => dataLt y x = false := by
  have h := List.pairwise_mergeSort (le := dataLe false fun d : D => d) (by
    intro a b c h1 h2
    rw [dataLe_not] at *
    simp only [Bool.not_eq_true'] at *
    cases h : dataLt c a with
    | false => rfl
    | true =>
      cases q : dataLt a b with
      | true => rw [lt_trans' h q] at h2; cases h2
      | false =>
        have : keyToks a = keyToks b := lex_total _ _ q h1
        have e : dataLt c a = dataLt c b := by unfold dataLt; rw [this]
        rw [e] at h; rw [h] at h2; cases h2) (by
    intro a b
    rw [dataLe_not, dataLe_not]
    cases h : dataLt b a with
    | false => rfl
    | true => rw [lt_asymm h]; rfl) xs
  exact h.imp fun {x y} h => by rw [dataLe_not] at h; simpa using h
theorem sort_mem {xs : List D} {d : D} : d ∈ sortD xs ↔ d ∈ xs := (List.mergeSort_perm xs _).mem_iff
theorem sort_nodup {xs : List D} (h : xs.Nodup) : (sortD xs).Nodup := (List.mergeSort_perm xs _).nodup_iff.mpr h
theorem sort_len (xs : List D) : (sortD xs).length = xs.length := (List.mergeSort_perm xs _).length_eq
/-- distinct data, sorted: strictly upwards -/
theorem Ordd.strict {S : D → Prop} (o : Ordd S) {xs : List D} (hs : ∀ d ∈ xs, S d) (hn : xs.Nodup) : (sortD xs).Pairwise fun x y => dataLt x y = true := by
  have h1 := (List.Pairwise.and (sort_pw xs) (sort_nodup hn))
  refine (List.Pairwise.and_mem.mp h1).imp fun {x y} h => ?_
  cases e : dataLt x y with
  | true => rfl
  | false => exact absurd (o.tot (hs x (sort_mem.mp h.1)) (hs y (sort_mem.mp h.2.1)) e h.2.2.1) h.2.2.2
/-- distinct data: sorted alike just when they are the same data -/
theorem Ordd.same {S : D → Prop} (o : Ordd S) {xs ys : List D} (hx : ∀ d ∈ xs, S d) (hy : ∀ d ∈ ys, S d) (nx : xs.Nodup) (ny : ys.Nodup) : sortD xs = sortD ys ↔ ∀ d, d ∈ xs ↔ d ∈ ys := by
  constructor
  · intro e d
    rw [← sort_mem, e, sort_mem]
  · intro h
    have p : xs.Perm ys := (List.perm_ext_iff_of_nodup nx ny).mpr h
    refine List.Perm.eq_of_pairwise (le := fun x y => dataLt y x = false) (fun a b ha hb h1 h2 => o.tot (hx a (sort_mem.mp ha)) (hy b (sort_mem.mp hb)) h2 h1) (sort_pw xs) (sort_pw ys) ?_
    exact (List.mergeSort_perm xs _).trans (p.trans (List.mergeSort_perm ys _).symm)
theorem eqvAll_self {S : D → Prop} (o : Ordd S) : ∀ {xs ys : List D}, (∀ d ∈ xs, S d) → (∀ d ∈ ys, S d) → (PyData.eqvAll xs ys = true ↔ xs = ys)
  | [], [], _, _ => by simp [PyData.eqvAll]
  | [], _ :: _, _, _ => by simp [PyData.eqvAll]
  | _ :: _, [], _, _ => by simp [PyData.eqvAll]
  | x :: xs, y :: ys, hx, hy => by
    have ih := eqvAll_self o (xs := xs) (ys := ys) (fun d h => hx d (by simp [h])) (fun d h => hy d (by simp [h]))
    rw [PyData.eqvAll, Bool.and_eq_true, ih, List.cons.injEq]
    constructor
    · rintro ⟨h1, h2⟩; exact ⟨o.eq x y (hx x (by simp)) (hy y (by simp)) h1, h2⟩
    · rintro ⟨rfl, h2⟩; exact ⟨o.rf x (hx x (by simp)), h2⟩
theorem Ordd.list {S : D → Prop} (o : Ordd S) {xs ys : List D} (hx : ∀ d ∈ xs, S d) (hy : ∀ d ∈ ys, S d) : PyData.eqv (.list xs) (.list ys) = true ↔ xs = ys := by
  rw [PyData.eqv]
  exact eqvAll_self o hx hy
end Sd
set_option Elab.async false
set_option linter.all false
set_option maxRecDepth 100000
set_option maxHeartbeats 4000000
set_option autoImplicit false
namespace Sd.K04
open PySem PySem.Spec PyProof.Rows L2 C8 Sd PySem.W

theorem alikeAll_map {α : Type} (f : α → D) (h : ∀ a b, alike (f a) (f b) = true) : ∀ xs ys : List α, alikeAll (xs.map f) (ys.map f) = true
  | [], _ => by simp [alikeAll]
  | _ :: _, [] => by simp [alikeAll]
  | x :: xs, y :: ys => by
    rw [List.map_cons, List.map_cons, alikeAll, h x y, alikeAll_map f h xs ys]; rfl
theorem eqvAll_map {α : Type} [DecidableEq α] (f : α → D) (h : ∀ a b, PyData.eqv (f a) (f b) = decide (a = b)) : ∀ xs ys : List α, PyData.eqvAll (xs.map f) (ys.map f) = decide (xs = ys)
  | [], [] => by simp [PyData.eqvAll]
  | [], _ :: _ => by simp [PyData.eqvAll]
  | _ :: _, [] => by simp [PyData.eqvAll]
  | x :: xs, y :: ys => by
    rw [List.map_cons, List.map_cons, PyData.eqvAll, eqvAll_map f h xs ys, h x y]
    by_cases q : x = y <;> simp [q]
theorem alike_eI (i j : Int) : alike (eI i) (eI j) = true := by simp [eI, alike]
theorem alike_eU (u v : Un) : alike (eU u) (eU v) = true := by
  unfold eU; rw [alike]; exact alikeAll_map eI alike_eI u v
theorem alike_eP (p q : Int × Int) : alike (eP p) (eP q) = true := by simp [eP, alike, alikeAll]
theorem alike_eB (a b : Bx) : alike (eB a) (eB b) = true := by
  unfold eB; rw [alike]; exact alikeAll_map eP alike_eP a b
theorem eqv_eP (p q : Int × Int) : PyData.eqv (eP p) (eP q) = decide (p = q) := by
  obtain ⟨a, b⟩ := p; obtain ⟨c, d⟩ := q
  simp only [eP, PyData.eqv, PyData.eqvAll, Bool.and_true, Prod.mk.injEq]
  by_cases h : a = c <;> by_cases h2 : b = d <;> simp [h, h2]
theorem eqv_eB (a b : Bx) : PyData.eqv (eB a) (eB b) = decide (a = b) := by
  unfold eB; rw [PyData.eqv, eqvAll_map eP eqv_eP]
theorem ordU : Ordd fun d => ∃ u, d = eU u where
  al := by rintro x y ⟨u, rfl⟩ ⟨v, rfl⟩; exact alike_eU u v
  eq := by
    rintro x y ⟨u, rfl⟩ ⟨v, rfl⟩ h
    rw [eqv_eU] at h
    rw [of_decide_eq_true h]
  rf := by rintro x ⟨u, rfl⟩; rw [eqv_eU]; simp
theorem ordB : Ordd fun d => ∃ b, d = eB b where
  al := by rintro x y ⟨u, rfl⟩ ⟨v, rfl⟩; exact alike_eB u v
  eq := by
    rintro x y ⟨u, rfl⟩ ⟨v, rfl⟩ h
    rw [eqv_eB] at h
    rw [of_decide_eq_true h]
  rf := by rintro x ⟨u, rfl⟩; rw [eqv_eB]; simp
theorem depth_eP (p : Int × Int) : (eP p).depth ≤ 2 := by simp [eP, PyData.depth, PyData.depthAll]
theorem depth_eB (b : Bx) : (eB b).depth ≤ 4 := by
  have h := depth_mem (xs := b.map eP) (n := 2) (by intro d hd; obtain ⟨a, _, rfl⟩ := List.mem_map.mp hd; exact depth_eP a)
  unfold eB; simp only [PyData.depth]; omega
theorem depth_eU (u : Un) : (eU u).depth ≤ 2 := by
  have h := depth_mem (xs := u.map eI) (n := 0) (by intro d hd; obtain ⟨a, _, rfl⟩ := List.mem_map.mp hd; simp [eI, PyData.depth])
  unfold eU; simp only [PyData.depth]; omega
@[simp] theorem plain_eU (u : Un) : (eU u).plain = true := by
  unfold eU; rw [plain_tuple]; exact plainAll_map _ plain_eI _
def ltB (a b : Bx) : Bool := dataLt (eB a) (eB b)
theorem pLt_eB (a b : Bx) : pLt (eB a) (eB b) = some (.val (.bool (ltB a b))) := by
  have h : okLt (eB a) (eB b) = true := by
    unfold okLt
    have h1 : decide ((eB a).depth ≤ 60) = true := decide_eq_true (by have := depth_eB a; omega)
    rw [plain_eB, plain_eB, alike_eB, h1]
    rfl
  unfold pLt
  rw [if_pos h]
  rfl
theorem stretchB_eP {d : D} (h : stretchB d = true) : ∃ p, d = eP p ∧ p.1 < p.2 ∧ -1000 ≤ p.1 ∧ p.2 ≤ 1000 := by
  unfold stretchB at h
  split at h
  · rename_i a b
    simp only [Bool.and_eq_true, decide_eq_true_eq] at h
    exact ⟨(a, b), rfl, by simp; omega, by simp; omega, by simp; omega⟩
  · cases h
theorem boxB_eB {d : D} (h : boxB d = true) : ∃ b, d = eB b ∧ okB b ∧ (b.length = 2 ∨ b.length = 3) := by
  unfold boxB at h
  split at h
  · rename_i xs
    simp only [Bool.and_eq_true, Bool.or_eq_true, beq_iff_eq] at h
    obtain ⟨hl, ha⟩ := h
    have key : ∀ xs : List D, xs.all stretchB = true → ∃ b : Bx, xs = b.map eP ∧ okB b := by
      intro xs
      induction xs with
      | nil => exact fun _ => ⟨[], rfl, by simp [okB]⟩
      | cons x xs ih =>
        intro h
        rw [List.all_cons, Bool.and_eq_true] at h
        obtain ⟨p, rfl, h1, _⟩ := stretchB_eP h.1
        obtain ⟨b, rfl, h2⟩ := ih h.2
        exact ⟨p :: b, rfl, okB_cons.mpr ⟨h1, h2⟩⟩
    obtain ⟨b, rfl, h2⟩ := key xs ha
    exact ⟨b, rfl, h2, by simpa using hl⟩
  · cases h
theorem boxes_eB : ∀ {xs : List D}, xs.all boxB = true → ∃ bs : List Bx, xs = bs.map eB
  | [], _ => ⟨[], rfl⟩
  | x :: xs, h => by
    rw [List.all_cons, Bool.and_eq_true] at h
    obtain ⟨b, rfl, _⟩ := boxB_eB h.1
    obtain ⟨bs, rfl⟩ := boxes_eB h.2
    exact ⟨b :: bs, rfl⟩
theorem chain18 (n : Nat) (ρ : Ev) : True := trivial
theorem is_thing_no_tuple (d : D) (hp : d.plain = true) (h : d.isTuple = false) : F_is_thing [d] = .ok (.val (.bool false)) := by
  simp [F_is_thing, ofBody, m_is_thing, hp, h]
theorem is_thing_len (xs : List D) (hp : PyData.plainAll xs = true) (h : ¬ (1 ≤ xs.length ∧ xs.length ≤ 8)) : F_is_thing [.tuple xs] = .ok (.val (.bool false)) := by
  by_cases h1 : (1 : Int) ≤ (xs.length : Int)
  · have h2 : ¬ ((xs.length : Int) ≤ 8) := by omega
    simp [F_is_thing, ofBody, m_is_thing, hp, PyData.isTuple, h1, h2]
  · simp [F_is_thing, ofBody, m_is_thing, hp, PyData.isTuple, h1]
theorem all_box_run (xs : List D) (hp : PyData.plainAll xs = true) (x1 x2 : Option Sl) : True := trivial
theorem is_thing_bad (xs : List D) (hp : PyData.plainAll xs = true) (h1 : 1 ≤ xs.length) (h2 : xs.length ≤ 8) (h : xs.all boxB = false) : F_is_thing [.tuple xs] = .ok (.val (.bool false)) := by
  have q1 : (1 : Int) ≤ (xs.length : Int) := by omega
  have q2 : (xs.length : Int) ≤ 8 := by omega
  simp [F_is_thing, ofBody, m_is_thing, hp, PyData.isTuple, q1, q2]
  rw [sAll_map xs id boxB]
  · rw [h]; simp
  · simp
  · simp
  · intro d hd
    simp [turnA, is_box_D _ (plainAll_iff.mp hp d hd)]
theorem is_thing_T (b : Bx) (bs : List Bx) (h2 : (b :: bs).length ≤ 8) (h : ((b :: bs).map eB).all boxB = true) : F_is_thing [eT (b :: bs)] = .ok (.val (.bool ((b :: bs).all (fun c => c.length == b.length) && ((b :: bs).zip bs).all fun p => ltB p.1 p.2))) := by
  have q1 : (1 : Int) ≤ ((b :: bs).length : Int) := by simp; omega
  have q2 : ((b :: bs).length : Int) ≤ 8 := by omega
  have ht : (eT (b :: bs)).isTuple = true := rfl
  simp only [F_is_thing, ofBody, m_is_thing, List.map_cons, List.map_nil, List.cons_append, List.nil_append, List.replicate, mSeq_ap, mIf_ap, bOr_ap, bNot_ap, bTru_ap, ph1_ex, sOp1_ap, ph1_nm, List.getElem?_cons_zero, Res.bind_ok, ph2_nm, frz_val, Option.bind_some, pIsi_t _ (plain_eT _), ht, Res.ofO_some, ph2_ex, truD_bool, Bool.not_true, Bool.false_eq_true, if_false, bVal_ap, sCh_ap, sC_ap, sN1_ap, len_eT, pLe_int, decide_eq_true q1, boolD_b, decide_eq_true q2]
  rw [sAll_map (b :: bs) eB (fun c => boxB (eB c))]
  · have e : ((b :: bs).all fun c => boxB (eB c)) = true := by rw [← h, List.all_map]; rfl
    rw [e]
    simp only [Res.bind_ok, frz_val, Option.bind_some, truD_bool, Res.ofO_some, Bool.not_true, Res.out_ok, Bool.false_eq_true, if_false, mNext_ap, Out.seq_nx, mSeq_ap, mIf_ap, bNot_ap, bTru_ap, ph1_ex, ph2_ex]
    rw [sAll_map (b :: bs) eB (fun c => c.length == b.length)]
    · cases hl : (b :: bs).all (fun c => c.length == b.length) with
      | false => simp
      | true =>
        simp only [Res.bind_ok, frz_val, Option.bind_some, truD_bool, Res.ofO_some, Bool.not_true, Res.out_ok, Bool.false_eq_true, if_false, mNext_ap, Out.seq_nx, mRet_ap]
        rw [sAll_map ((b :: bs).zip bs) (fun p => .tuple [eB p.1, eB p.2]) (fun p => ltB p.1 p.2)]
        · rfl
        · have e1 : pSl (some 1) none (eT (b :: bs)) = some (.val (eT bs)) := by
            show some (Sl.val (.tuple (cutD ([eB b] ++ bs.map eB) (some ((1 : Nat) : Int)) none))) = _
            rw [cutD_from _ _ 1 rfl]
            rfl
          have e2 : zipOf [eT (b :: bs), eT bs] = some (((b :: bs).zip bs).map fun p => .tuple [eB p.1, eB p.2]) := by
            unfold eT
            rw [zipOf_t, zipD_map]
          simp [e1, e2]
        · simp
        · intro p _
          simp [turnA, pLt_eB]
    · simp
    · simp
    · intro c _
      have e0 : pIx2 (eT (b :: bs)) (.int 0) = some (.val (eB b)) := by simp [eT]
      simp [turnA, e0]
      refine ⟨_, ⟨?_, rfl⟩, fun _ => rfl, rfl⟩
      rw [Bool.eq_iff_iff]
      simp
      try omega
  · simp
  · simp
  · intro c _
    simp [turnA, is_box_D _ (plain_eB c)]
end Sd.K04
set_option Elab.async false
set_option linter.all false
set_option maxRecDepth 100000
set_option maxHeartbeats 4000000
set_option autoImplicit false
namespace Sd.K04
open PySem PySem.Spec PyProof.Rows L2 C8 Sd PySem.W

theorem ofBodyL_rt {k : Nat} {m : MS} {o : Ob} {ds : List D} {r : Sl} (ρ0 ρ : Ev) (h0 : some (.own o) :: (ds.map (fun d => some (.val d)) ++ List.replicate k none) = ρ0) (h : m ρ0 = .rt r ρ) : ofBodyL k m o ds = lentOf ρ r := by
  unfold ofBodyL
  rw [h0, h]
def oI (ds : List Int) : Ob := .lst (ds.map eI)
theorem law_take (ds : List Int) (b : Int) (hb : 0 < b) : ∃ (r : Int) (es : List Int), 0 ≤ r ∧ r < b ∧ F__law_take (oI ds) [.int b] = .ok (.val (.int r)) (.own (oI es)) := by
  rcases List.eq_nil_or_concat ds with rfl | ⟨es, x, rfl⟩
  · refine ⟨0, [], Int.le_refl _, hb, ?_⟩
    simp [F__law_take, ofBodyL, m__law_take, oI]
    rfl
  · refine ⟨x % b, es, Int.emod_nonneg _ (by omega), Int.emod_lt_of_pos _ hb, ?_⟩
    have h0 : ¬ ((es.length : Int) + 1 = 0) := by omega
    simp [F__law_take, ofBodyL, m__law_take, oI, opPop, h0, eI, pInt, vI, pMod, hb]
    rfl
def near (p : Int × Int) : Prop := -3 ≤ p.1 ∧ p.1 ≤ 3 ∧ p.1 < p.2 ∧ p.2 ≤ p.1 + 3
theorem mul23 : pRep (.int 2) (.int 3) = some (.val (.int 6)) := by
  have e64 : (2 : Int) ^ 64 = 18446744073709551616 := by decide
  have q1 : -(2 ^ 64) < (2 : Int) := by rw [e64]; omega
  have q2 : (2 : Int) < 2 ^ 64 := by rw [e64]; omega
  unfold pRep
  simp only
  rw [if_pos (.inl ⟨q1, q2⟩)]
  rfl
theorem law_box_ok (ds : List Int) (n : Nat) (hn : n ≤ 1000) : ∃ (b : Bx) (es : List Int), b.length = n ∧ (∀ p ∈ b, near p) ∧ F__law_box (oI ds) [.int (n : Int), .int 3, .int 3] = .ok (.val (eB b)) (.own (oI es)) := by
  have e0 : (0 : Nat) ≤ sizeLine := Nat.zero_le _
  have loop : ∀ (is : List Nat) (ds : List Int) (b : Bx) (x5 x6 : Option Sl), b.length + is.length ≤ 1000 → (∀ p ∈ b, near p) →
      ∃ (c : Bx) (es : List Int) (y5 y6 : Option Sl), c.length = b.length + is.length ∧ (∀ p ∈ c, near p) ∧ forItems (.nm 5) (mSeq (mSet 6 (sOp2 pSub (.ex (sCallL F__law_take 0 (aC (sOp2 pAdd (.ex (sOp2 pRep (.ex (sC (.int 2))) (.nm 2))) (.ex (sC (.int 1)))) aN))) (.nm 2))) (mDrop (sLM opAppend 4 (aC (sTup (aC (sVar 6) (aC (sOp2 pAdd (.ex (sOp2 pAdd (.nm 6) (.ex (sC (.int 1))))) (.ex (sCallL F__law_take 0 (aC (sVar 3) aN)))) aN))) aN)))) (is.map eN) [some (.own (oI ds)), some (.val (.int n)), some (.val (.int 3)), some (.val (.int 3)), some (.own (.lst (b.map eP))), x5, x6] =
        .nx [some (.own (oI es)), some (.val (.int n)), some (.val (.int 3)), some (.val (.int 3)), some (.own (.lst (c.map eP))), y5, y6] := by
    intro is
    induction is with
    | nil => intro ds b x5 x6 _ h; exact ⟨b, ds, x5, x6, by simp, h, rfl⟩
    | cons i is ih =>
      intro ds b x5 x6 hl hb
      simp only [List.length_cons] at hl
      obtain ⟨r, es, r1, r2, e1⟩ := law_take ds 7 (by omega)
      obtain ⟨s, fs, s1, s2, e2⟩ := law_take es 3 (by omega)
      have hz : b.length < sizeLine := by rw [sizeLine_eq]; omega
      obtain ⟨c, gs, y5, y6, l1, l2, e3⟩ := ih fs (b ++ [(r - 3, r - 3 + 1 + s)]) (some (.val (eN i))) (some (.val (.int (r - 3)))) (by simp; omega) (by
        intro p hp
        rcases List.mem_append.mp hp with hp | hp
        · exact hb p hp
        · simp at hp; subst hp; unfold near; simp; omega)
      refine ⟨c, gs, y5, y6, by rw [l1]; simp; omega, l2, ?_⟩
      rw [List.map_cons, forItems_cons]
      simp [mul23, e1, e2, z2, opAppend, hz]
      simpa [eP] using e3
  obtain ⟨c, es, y5, y6, l1, l2, e⟩ := loop (List.range n) ds [] none none (by simpa using hn) (by simp)
  refine ⟨c, es, by simpa using l1, l2, ?_⟩
  simp only [List.map_nil] at e
  unfold F__law_box m__law_box
  refine Eq.trans (ofBodyL_rt [some (.own (oI ds)), some (.val (.int n)), some (.val (.int 3)), some (.val (.int 3)), none, none, none] [some (.own (oI es)), some (.val (.int n)), some (.val (.int 3)), some (.val (.int 3)), some (.own (.lst (c.map eP))), y5, y6] rfl ?_) rfl
  rw [mSeq_ap, mSet_ap, sLst_ap, aN_ap, Res.bind_ok, List.length_nil, if_pos e0, Res.out_ok, Out.seq_nx, mSeq_ap, mFor_ap, sRange1_s (n := n) (by simp) (by omega), Res.out_ok]
  simp only [List.set]
  rw [e, Out.seq_nx, mRet_ap, sN1_ap]
  simp [eB]
end Sd.K04
set_option Elab.async false
set_option linter.all false
set_option maxRecDepth 100000
set_option maxHeartbeats 4000000
set_option autoImplicit false
namespace Sd.K04
open PySem PySem.Spec PyProof.Rows L2 C8 Sd PySem.W

theorem alk_tuple (R : Fn) (xs : List D) (hp : PyData.plainAll xs = true) (hl : xs.length ≤ 1000) (h : ∀ x ∈ xs, R [x, x] = .ok (.val (.bool true))) : FF__law_alike R [.tuple xs, .tuple xs] = .ok (.val (.bool true)) := by
  have hpt : (PyData.tuple xs).plain = true := by rw [plain_tuple]; exact hp
  have hc : sOp2 pEq (.ex (sListComp [2] ⟨(sRange1 (aC (sN pLen2 [(.nm 1)]) aN)), (.nm 2), (bNot (bTru (.ex (sCall R (aC (sOp2 pIx2 (.nm 0) (.nm 2)) (aC (sOp2 pIx2 (.nm 1) (.nm 2)) aN))))))⟩ [] (sVar 2))) (.ex (sLst aN)) [some (.val (.tuple xs)), some (.val (.tuple xs)), none] = .ok (.val (.bool true)) [some (.val (.tuple xs)), some (.val (.tuple xs)), none] := by
    rw [sEqNil (sLC_if (List.range xs.length) eN (fun _ => false) eN ?_ ?_ ?_ ?_) (okEq_ns _)]
    · simp
    · refine sRange1_s (n := xs.length) ?_ (by omega)
      simp
    · simp
    · intro i hi
      have hi1 : i < xs.length := List.mem_range.mp hi
      have e : pIx2 (.tuple xs) (.int (i : Int)) = some (.val xs[i]) := by rw [pIx2_t, atI_lt hi1]; rfl
      simp [turnC, eN, e, h xs[i] (List.getElem_mem hi1)]
    · rw [List.length_range]; exact sizeLine_big (by omega)
  unfold FF__law_alike m__law_alike ofBody
  simp only [List.map_cons, List.map_nil, List.replicate, List.cons_append, List.nil_append, mSeq_ap, mIf_ap, bOr_ap, bTru_ap, bVal_ap, ph1_ex, ph2_ex, sOp1_ap, sOp2_ap, ph1_nm, ph2_nm, List.getElem?_cons_zero, List.getElem?_cons_succ, Res.bind_ok, frz_val, Option.bind_some, pIsi_t _ hpt, pIsi_l _ hpt, Res.ofO_some, truD_bool, PyData.isTuple, PyData.isList, Bool.false_eq_true, if_false, if_true, Res.out_ok, pNe_bool, boolD_b, beq_self_eq_true, Bool.not_true, mNext_ap, Out.seq_nx, mRet_ap, sAnd_ap, sN1_ap, pLen2_tuple, pEq_int]
  rw [sOp2_ap] at hc
  simp only [ph1_ex, ph2_ex] at hc
  rw [hc]
  simp
theorem alk_int (R : Fn) (i : Int) : FF__law_alike R [.int i, .int i] = .ok (.val (.bool true)) := by
  simp [FF__law_alike, m__law_alike, ofBody, PyData.isTuple, PyData.isList, PyData.isBool, PyData.isInt, pIs, isNoneD, vB]
theorem alk_none (R : Fn) : FF__law_alike R [.none, .none] = .ok (.val (.bool true)) := by
  simp [FF__law_alike, m__law_alike, ofBody, PyData.isTuple, PyData.isList, pIs, isNoneD, vB]
theorem alk_map {α : Type} (R : Fn) (f : α → D) (hf : ∀ a, (f a).plain = true) (xs : List α) (hl : xs.length ≤ 1000) (h : ∀ x ∈ xs, R [f x, f x] = .ok (.val (.bool true))) : FF__law_alike R [.tuple (xs.map f), .tuple (xs.map f)] = .ok (.val (.bool true)) :=
  alk_tuple R (xs.map f) (plainAll_map f hf xs) (by simpa using hl) fun d hd => by
    obtain ⟨a, ha, rfl⟩ := List.mem_map.mp hd
    exact h a ha
theorem fn_succ (n : Nat) : FN__law_alike (n + 1) = FF__law_alike (FN__law_alike n) := rfl
theorem alk_eP (n : Nat) (p : Int × Int) : FN__law_alike (n + 2) [eP p, eP p] = .ok (.val (.bool true)) := by
  rw [fn_succ]
  exact alk_map _ eI plain_eI [p.1, p.2] (by simp) fun x _ => by rw [fn_succ]; exact alk_int _ x
theorem alk_eB (n : Nat) (b : Bx) (h : b.length ≤ 1000) : FN__law_alike (n + 3) [eB b, eB b] = .ok (.val (.bool true)) := by
  rw [fn_succ]
  exact alk_map _ eP plain_eP b h fun x _ => alk_eP n x
theorem alk_eT (n : Nat) (bs : List Bx) (h : bs.length ≤ 1000) (hb : ∀ b ∈ bs, b.length ≤ 1000) : FN__law_alike (n + 4) [eT bs, eT bs] = .ok (.val (.bool true)) := by
  rw [fn_succ]
  exact alk_map _ eB plain_eB bs h fun x hx => alk_eB n x (hb x hx)
theorem alike_B (b : Bx) (h : b.length ≤ 1000) : F__law_alike [eB b, eB b] = .ok (.val (.bool true)) := alk_eB 5 b h
theorem alike_T (bs : List Bx) (h : bs.length ≤ 1000) (hb : ∀ b ∈ bs, b.length ≤ 1000) : F__law_alike [eT bs, eT bs] = .ok (.val (.bool true)) := alk_eT 4 bs h hb
theorem alike_none : F__law_alike [.none, .none] = .ok (.val (.bool true)) := by
  show FN__law_alike 8 _ = _
  rw [fn_succ]
  exact alk_none _
end Sd.K04
set_option Elab.async false
set_option linter.all false
set_option maxRecDepth 100000
set_option maxHeartbeats 4000000
set_option autoImplicit false
namespace Sd.K04
open PySem PySem.Spec PyProof.Rows L2 C8 Sd PySem.W

/-- boxes put into a dict -/
def insB (U : List Bx) (u : Bx) : List Bx := if u ∈ U then U else U ++ [u]
def eDB (U : List Bx) : List (D × D) := U.map fun u => (eB u, PyData.int 1)
theorem look_eDB (U : List Bx) (u : Bx) : (lookD (eDB U) (eB u)).isSome = decide (u ∈ U) := by
  unfold lookD eDB
  induction U with
  | nil => rfl
  | cons v U ih =>
    rw [List.map_cons, List.find?_cons]
    simp only [eqv_eB]
    by_cases h : v = u
    · simp [h]
    · have h' : ¬ u = v := fun e => h e.symm
      simp only [h, decide_false, List.mem_cons, h', false_or]
      exact ih
theorem store_eDB (U : List Bx) (u : Bx) : storeD (eDB U) (eB u) (.int 1) = eDB (insB U u) := by
  unfold storeD insB
  rw [look_eDB]
  by_cases h : u ∈ U
  · simp only [h, decide_true, if_true]
    unfold eDB
    rw [List.map_map]
    refine List.map_congr_left fun v _ => ?_
    simp only [Function.comp_apply]
    split <;> rfl
  · simp [h, eDB]
theorem insB_ok {U : List Bx} {u : Bx} (h : U.Nodup) : (insB U u).Nodup ∧ ∀ v, v ∈ insB U u ↔ v ∈ U ∨ v = u := by
  unfold insB
  split
  · rename_i hu
    refine ⟨h, fun v => ⟨.inl, ?_⟩⟩
    rintro (h | rfl)
    · exact h
    · exact hu
  · rename_i hu
    refine ⟨?_, fun v => by simp⟩
    rw [List.nodup_append]
    refine ⟨h, by simp, ?_⟩
    intro a ha b hb e
    simp at hb
    subst hb; subst e
    exact hu ha
theorem dictOf_eDB : ∀ (bs U : List Bx), U.Nodup → ∃ V : List Bx, V.Nodup ∧ (∀ v, v ∈ V ↔ v ∈ U ∨ v ∈ bs) ∧ V.length ≤ U.length + bs.length ∧ dictOf (eDB U) (eDB bs) = eDB V
  | [], U, h => ⟨U, h, by simp, by simp, rfl⟩
  | b :: bs, U, h => by
    obtain ⟨i1, i2⟩ := insB_ok (u := b) h
    have i3 : (insB U b).length ≤ U.length + 1 := by unfold insB; split <;> simp
    obtain ⟨V, v1, v2, v3, e⟩ := dictOf_eDB bs (insB U b) i1
    refine ⟨V, v1, fun v => by rw [v2 v, i2 v]; simp [or_assoc], by simp; omega, ?_⟩
    rw [← e, ← store_eDB]
    rfl
end Sd.K04
set_option Elab.async false
set_option linter.all false
set_option maxRecDepth 100000
set_option maxHeartbeats 400000
set_option autoImplicit false
namespace Sd.K04
open PySem PySem.Spec PyProof.Rows L2 C8 Sd PySem.W
/-- the boxes that the draws give -/
theorem boxes_comp (F : FnL) (n : Nat) (hF : ∀ ds : List Int, ∃ (b : Bx) (es : List Int), b.length = n ∧ (∀ p ∈ b, near p) ∧ F (oI ds) [.int (n : Int), .int 3, .int 3] = .ok (.val (eB b)) (.own (oI es))) (bd : Sl) : ∀ (is : List Nat) (ds : List Int), ∃ (bs : List Bx) (es : List Int), bs.length = is.length ∧ (∀ b ∈ bs, b.length = n ∧ ∀ p ∈ b, near p) ∧
    compItems (.nm 6) bYes (emit1 (sCallL F 0 (aC (sVar 1) (aC (sVar 3) (aC (sVar 4) aN))))) (is.map eN) [some (.own (oI ds)), some (.val (.int n)), some bd, some (.val (.int 3)), some (.val (.int 3)), none, none, none] =
      .ok (bs.map eB) [some (.own (oI es)), some (.val (.int n)), some bd, some (.val (.int 3)), some (.val (.int 3)), none, none, none]
  | [], ds => ⟨[], ds, rfl, by simp, rfl⟩
  | i :: is, ds => by
    obtain ⟨b, es, l, nr, e⟩ := hF ds
    obtain ⟨bs, fs, l2, nr2, e2⟩ := boxes_comp F n hF bd is es
    refine ⟨b :: bs, fs, by simp [l2], ?_, ?_⟩
    · intro c hc
      rcases List.mem_cons.mp hc with rfl | hc
      · exact ⟨l, nr⟩
      · exact nr2 c hc
    · have tn : turnC (.nm 6) bYes (emit1 (sCallL F 0 (aC (sVar 1) (aC (sVar 3) (aC (sVar 4) aN))))) (eN i) [some (.own (oI ds)), some (.val (.int n)), some bd, some (.val (.int 3)), some (.val (.int 3)), none, none, none] = .ok [eB b] [some (.own (oI es)), some (.val (.int n)), some bd, some (.val (.int 3)), some (.val (.int 3)), none, none, none] := by
        have ha : (aC (sVar 1) (aC (sVar 3) (aC (sVar 4) aN))) [some (.own (oI ds)), some (.val (.int n)), some bd, some (.val (.int 3)), some (.val (.int 3)), none, some (.val (eN i)), none] = .ok [.int n, .int 3, .int 3] [some (.own (oI ds)), some (.val (.int n)), some bd, some (.val (.int 3)), some (.val (.int 3)), none, some (.val (eN i)), none] := by simp
        have hs : sCallL F 0 (aC (sVar 1) (aC (sVar 3) (aC (sVar 4) aN))) [some (.own (oI ds)), some (.val (.int n)), some bd, some (.val (.int 3)), some (.val (.int 3)), none, some (.val (eN i)), none] = .ok (.val (eB b)) [some (.own (oI es)), some (.val (.int n)), some bd, some (.val (.int 3)), some (.val (.int 3)), none, some (.val (eN i)), none] := by
          rw [sCallL_ap, ha]
          simp only [List.getElem?_cons_zero, Res.bind_ok]
          rw [e]
          simp only [List.set]
        unfold turnC
        rw [assignT_nm]
        simp only [List.set, bYes_ap, Res.bind_ok, if_true, emit1_ap]
        rw [hs]
        simp only [Res.bind_ok, slots_nm, wipeE_cons, wipeE_nil, List.set, frz_val]
      rw [List.map_cons, compItems_step, tn, Res.bind_ok, e2, Res.bind_ok]
      try simp only [turnC, assignT_nm, List.set, bYes_ap, Res.bind_ok, if_true, emit1_ap, sCallL_ap, List.getElem?_cons_zero, List.getElem?_cons_succ, aC_ap, sVar_ap, aN_ap, frz_val, e, slots_nm, wipeE_cons, wipeE_nil]
      try simp only [List.cons_append, List.nil_append, List.map_cons]
end Sd.K04
set_option Elab.async false
set_option linter.all false
set_option maxRecDepth 100000
set_option maxHeartbeats 4000000
set_option autoImplicit false
namespace Sd.K04
open PySem PySem.Spec PyProof.Rows L2 C8 Sd PySem.W

/-- data that are all boxes come from boxes -/
theorem unmap : ∀ {xs : List D}, (∀ d ∈ xs, ∃ b, d = eB b) → ∃ bs : List Bx, xs = bs.map eB
  | [], _ => ⟨[], rfl⟩
  | x :: xs, h => by
    obtain ⟨b, rfl⟩ := h x (by simp)
    obtain ⟨bs, rfl⟩ := unmap (xs := xs) fun d hd => h d (by simp [hd])
    exact ⟨b :: bs, rfl⟩
theorem eB_inj {a b : Bx} (h : eB a = eB b) : a = b := by
  have := eqv_eB a b
  rw [h, eqv_eB] at this
  simpa using this.symm
theorem sort_boxes (V : List Bx) (hn : V.Nodup) : ∃ T : List Bx, sortD (V.map eB) = T.map eB ∧ (∀ b, b ∈ T ↔ b ∈ V) ∧ T.length = V.length ∧ T.Pairwise fun a b => ltB a b = true := by
  have hs : ∀ d ∈ V.map eB, ∃ b, d = eB b := by
    intro d hd
    obtain ⟨b, _, rfl⟩ := List.mem_map.mp hd
    exact ⟨b, rfl⟩
  obtain ⟨T, hT⟩ := unmap (xs := sortD (V.map eB)) fun d hd => hs d (sort_mem.mp hd)
  have hnd : (V.map eB).Nodup := by
    unfold List.Nodup
    rw [List.pairwise_map]
    exact hn.imp fun {a b} h e => h (eB_inj e)
  have hp := ordB.strict hs hnd
  rw [hT, List.pairwise_map] at hp
  refine ⟨T, hT, fun b => ?_, ?_, hp⟩
  · have h := sort_mem (xs := V.map eB) (d := eB b)
    rw [hT] at h
    constructor
    · intro hb
      obtain ⟨c, hc, e⟩ := List.mem_map.mp (h.mp (List.mem_map.mpr ⟨b, hb, rfl⟩))
      rw [← eB_inj e]; exact hc
    · intro hb
      obtain ⟨c, hc, e⟩ := List.mem_map.mp (h.mpr (List.mem_map.mpr ⟨b, hb, rfl⟩))
      rw [← eB_inj e]; exact hc
  · have := sort_len (V.map eB)
    rw [hT] at this
    simpa using this
theorem sortOk_boxes (V : List Bx) (n : Nat) (hn : 0 < n) (h : ∀ b ∈ V, b.length = n) (hl : V.length ≤ 1000000) : SortOk (V.map eB) where
  al := by
    intro d hd e he
    obtain ⟨a, _, rfl⟩ := List.mem_map.mp hd
    obtain ⟨b, _, rfl⟩ := List.mem_map.mp he
    exact alike_eB a b
  so := .inl fun d hd => by
    obtain ⟨a, ha, rfl⟩ := List.mem_map.mp hd
    have := h a ha
    cases a with
    | nil => simp at this; omega
    | cons p a => exact ⟨eP p, a.map eP, rfl⟩
  pl := plainAll_map _ plain_eB _
  dp := fun d hd => by
    obtain ⟨a, _, rfl⟩ := List.mem_map.mp hd
    have := depth_eB a
    omega
  ln := by rw [List.length_map]; exact sizeLine_big hl
end Sd.K04
set_option Elab.async false
set_option linter.all false
set_option maxRecDepth 100000
set_option maxHeartbeats 4000000
set_option autoImplicit false
namespace Sd.K04
open PySem PySem.Spec PyProof.Rows L2 C8 Sd PySem.W

theorem near_good {n : Nat} {b : Bx} (hl : b.length = n) (h : ∀ p ∈ b, near p) : good n b ∧ coo b := by
  refine ⟨⟨fun p hp => ?_, hl⟩, fun p hp => ?_⟩
  · have := h p hp; unfold near at this; omega
  · have := h p hp; unfold near at this; omega
theorem near_boxB {b : Bx} (hl : b.length = 2 ∨ b.length = 3) (h : ∀ p ∈ b, near p) : boxB (eB b) = true := by
  unfold eB boxB
  rw [Bool.and_eq_true]
  refine ⟨by simpa using hl, ?_⟩
  rw [List.all_map, List.all_eq_true]
  intro p hp
  have := h p hp
  unfold near at this
  simp only [Function.comp_apply, eP, stretchB, Bool.and_eq_true, decide_eq_true_eq]
  omega
end Sd.K04
set_option Elab.async false
set_option linter.all false
set_option maxRecDepth 100000
set_option maxHeartbeats 4000000
set_option autoImplicit false
namespace Sd.K04
open PySem PySem.Spec PyProof.Rows L2 C8 Sd PySem.W

noncomputable def gThing (T B : FnL) : MS := (mSeq (mSet 5 (sListComp [6] ⟨(sRange1 (aC (sOp2 pAdd (.ex (sC (.int 1))) (.ex (sCallL T 0 (aC (sVar 2) aN)))) aN)), (.nm 6), bYes⟩ [] (sCallL B 0 (aC (sVar 1) (aC (sVar 3) (aC (sVar 4) aN)))))) (mRet (sN pTuple [(.ex (sN pSorted [(.ex (sN pListC2 [(.ex (sN pDictC [(.ex (sListComp [7] ⟨(sIt (sVar 5)), (.nm 7), bYes⟩ [] (sTup (aC (sVar 7) (aC (sC (.int 1)) aN)))))]))]))]))])))
theorem thing_is : F__law_thing = ofBodyL 3 (gThing F__law_take F__law_box) := rfl
def kP (p : Int × Int) : NestedKey := .tup [.num p.1, .num p.2]
theorem keysN_B (b : Bx) : keysN (b.map eP) = some (b.map kP) := by
  induction b with
  | nil => rfl
  | cons p b ih => rw [List.map_cons, keysN, ih]; rfl
theorem depth_kP (b : Bx) : NestedKey.depthAll (b.map kP) ≤ 4 := by
  induction b with
  | nil => simp [NestedKey.depthAll]
  | cons i u ih =>
    simp only [List.map_cons, NestedKey.depthAll, NestedKey.depth, kP] at ih ⊢
    omega
theorem tup_eB (b : Bx) : ∃ k, tupKey (eB b) = some k := by
  have h : keyN (eB b) = some (.tup (b.map kP)) := by
    unfold eB keyN
    rw [keysN_B]
    rfl
  refine ⟨.tup (b.map kP), ?_⟩
  unfold tupKey
  rw [h]
  simp only
  rw [if_pos]
  have := depth_kP b
  simp only [NestedKey.depth]
  omega
theorem pairs_eDB (bs : List Bx) : pairsD (bs.map fun b => PyData.tuple [eB b, .int 1]) = some (eDB bs) := by
  induction bs with
  | nil => rfl
  | cons b bs ih =>
    obtain ⟨k, hk⟩ := tup_eB b
    simp [pairsD, ih, eDB, pairD, hk]
theorem allTup_eDB (U : List Bx) : allTup (eDB U) = true := by
  unfold allTup eDB
  rw [List.all_map, List.all_eq_true]
  intro u _
  rfl
theorem thing_gen (T B : FnL) (n : Nat) (h0 : 0 < n) (hT : ∀ (ds : List Int) (b : Int), 0 < b → ∃ (r : Int) (es : List Int), 0 ≤ r ∧ r < b ∧ T (oI ds) [.int b] = .ok (.val (.int r)) (.own (oI es)))
    (hB : ∀ ds : List Int, ∃ (b : Bx) (es : List Int), b.length = n ∧ (∀ p ∈ b, near p) ∧ B (oI ds) [.int (n : Int), .int 3, .int 3] = .ok (.val (eB b)) (.own (oI es))) (c : Nat) (hc : 0 < c) (hc2 : c ≤ 1000) (ds : List Int) :
    ∃ (th : List Bx) (es : List Int), 0 < th.length ∧ th.length ≤ c ∧ (∀ b ∈ th, b.length = n ∧ ∀ p ∈ b, near p) ∧ (th.Pairwise fun a b => ltB a b = true) ∧ ofBodyL 3 (gThing T B) (oI ds) [.int (n : Int), .int (c : Int), .int 3, .int 3] = .ok (.val (eT th)) (.own (oI es)) := by
  obtain ⟨r, es, r1, r2, e1⟩ := hT ds c (by omega)
  obtain ⟨bs, fs, l1, nr, e2⟩ := boxes_comp B n hB (.val (.int c)) (List.range (1 + r.toNat)) es
  rw [List.length_range] at l1
  obtain ⟨V, v1, v2, v3, e3⟩ := dictOf_eDB bs [] (by simp)
  obtain ⟨th, t1, t2, t3, t4⟩ := sort_boxes V v1
  simp only [List.length_nil, Nat.zero_add] at v3
  have hmem : ∀ b ∈ th, b ∈ bs := fun b hb => by simpa using (v2 b).mp ((t2 b).mp hb)
  refine ⟨th, fs, ?_, by omega, fun b hb => nr b (hmem b hb), t4, ?_⟩
  · cases bs with
    | nil => simp at l1; omega
    | cons b bs => exact List.length_pos_iff.mpr (List.ne_nil_of_mem ((t2 b).mpr ((v2 b).mpr (by simp))))
  · refine Eq.trans (ofBodyL_rt [some (.own (oI ds)), some (.val (.int n)), some (.val (.int c)), some (.val (.int 3)), some (.val (.int 3)), none, none, none] [some (.own (oI fs)), some (.val (.int n)), some (.val (.int c)), some (.val (.int 3)), some (.val (.int 3)), some (.val (.list (bs.map eB))), none, none] (r := .val (eT th)) rfl ?_) rfl
    have hz : bs.length ≤ sizeLine := sizeLine_big (by omega)
    have er : (1 : Int) + r = ((1 + r.toNat : Nat) : Int) := by omega
    have h1 : (sRange1 (aC (sOp2 pAdd (.ex (sC (.int 1))) (.ex (sCallL T 0 (aC (sVar 2) aN)))) aN)) [some (.own (oI ds)), some (.val (.int n)), some (.val (.int c)), some (.val (.int 3)), some (.val (.int 3)), none, none, none] = .ok ((List.range (1 + r.toNat)).map eN) [some (.own (oI es)), some (.val (.int n)), some (.val (.int c)), some (.val (.int 3)), some (.val (.int 3)), none, none, none] := by
      refine sRange1_n (n := 1 + r.toNat) ?_ (by omega)
      simp [e1, er]
    have h2 := sListComp_run (vs := [6]) (dc := ⟨(sRange1 (aC (sOp2 pAdd (.ex (sC (.int 1))) (.ex (sCallL T 0 (aC (sVar 2) aN)))) aN)), (.nm 6), bYes⟩) (dcs := []) (f := (sCallL B 0 (aC (sVar 1) (aC (sVar 3) (aC (sVar 4) aN))))) h1 e2 (by rw [List.length_map]; exact hz)
    unfold gThing
    rw [mSeq_ap, mSet_ap, h2, Res.out_ok, Out.seq_nx, mRet_ap]
    simp only [restoreE_cons, restoreE_nil, List.getElem?_cons_succ, List.getElem?_cons_zero, Option.getD_some, keepV_none, List.set]
    have h3 : sListComp [7] ⟨(sIt (sVar 5)), (.nm 7), bYes⟩ [] (sTup (aC (sVar 7) (aC (sC (.int 1)) aN))) [some (.own (oI fs)), some (.val (.int n)), some (.val (.int c)), some (.val (.int 3)), some (.val (.int 3)), some (.own (.lst (bs.map eB))), none, none] = .ok (.own (.lst (bs.map fun b => PyData.tuple [eB b, .int 1]))) [some (.own (oI fs)), some (.val (.int n)), some (.val (.int c)), some (.val (.int 3)), some (.val (.int 3)), some (.val (.list (bs.map eB))), none, none] := by
      rw [sLC_go [some (.own (oI fs)), some (.val (.int n)), some (.val (.int c)), some (.val (.int 3)), some (.val (.int 3)), some (.val (.list (bs.map eB))), none, none] bs eB (fun b => [PyData.tuple [eB b, .int 1]]), flatMap_one]
      · simp
      · simp
      · intro b _
        simp [turnC, z2]
      · rw [flatMap_one, List.length_map]; exact hz
    have h4 : pDictC [.list (bs.map fun b => PyData.tuple [eB b, .int 1])] = some (.own (.dct (eDB V))) := by
      show (pairsD (bs.map fun b => PyData.tuple [eB b, .int 1])).map _ = _
      rw [pairs_eDB, Option.map_some, ← e3]
      rfl
    have h5 : pListC2 [.dict (eDB V)] = some (.own (.lst (V.map eB))) := by
      show (if allTup (eDB V) = true then some (Sl.own (.lst ((eDB V).map (·.1)))) else none) = _
      rw [if_pos (allTup_eDB V)]
      simp [eDB, Function.comp_def]
    have h6 : pSorted [.list (V.map eB)] = some (.own (.lst (th.map eB))) := by
      unfold pSorted
      simp only
      rw [if_pos (sortOk_boxes V n h0 (fun b hb => (nr b (by simpa using (v2 b).mp hb)).1) (by omega)), t1]
    simp only [sN1_ap, ph1_ex, ph2_ex, h3, Res.bind_ok, frz_lst, Option.bind_some, h4, Res.ofO_some, frz_dct, h5, h6, pTuple_list, Res.out_ok]
    rfl
end Sd.K04
set_option Elab.async false
set_option linter.all false
set_option maxRecDepth 100000
set_option maxHeartbeats 4000000
set_option autoImplicit false
namespace Sd.K04
open PySem PySem.Spec PyProof.Rows L2 C8 Sd PySem.W

def loMin (th : List Bx) (k : Nat) : Int := ((th.map fun b => b[k]!.1).min?).getD 0
def hiMax (th : List Bx) (k : Nat) : Int := ((th.map fun b => b[k]!.2).max?).getD 0
def hullB (th : List Bx) (n : Nat) : Bx := (List.range n).map fun k => (loMin th k, hiMax th k)
theorem pMin_ints (xs : List Int) (h : xs ≠ []) : pMin [.list (xs.map .int)] = some (.val (.int (xs.min?.getD 0))) := by
  unfold pMin
  simp only [ints_map, Option.bind_some]
  cases q : xs.min? with
  | none => exact absurd (List.min?_eq_none_iff.mp q) h
  | some m => rfl
theorem pMax_ints (xs : List Int) (h : xs ≠ []) : pMax [.list (xs.map .int)] = some (.val (.int (xs.max?.getD 0))) := by
  unfold pMax
  simp only [ints_map, Option.bind_some]
  cases q : xs.max? with
  | none => exact absurd (List.max?_eq_none_iff.mp q) h
  | some m => rfl
theorem hull_ok (th : List Bx) (n : Nat) (h0 : 0 < th.length) (hl : th.length ≤ 1000) (hn : n ≤ 1000) (h : ∀ b ∈ th, b.length = n) : F_hull [eT th] = .ok (.val (eB (hullB th n))) := by
  have hne : th ≠ [] := List.length_pos_iff.mp h0
  have loop : ∀ (is : List Nat) (b : Bx) (x2 : Option Sl), (∀ i ∈ is, i < n) → b.length + is.length ≤ 1000 → ∃ y2 : Option Sl, forItems (.nm 2) (mDrop (sLM opAppend 1 (aC (sTup (aC (sN pMin [(.ex (sListComp [3] ⟨(sIt (sVar 0)), (.nm 3), bYes⟩ [] (sOp2 pIx2 (.ex (sOp2 pIx2 (.nm 3) (.nm 2))) (.ex (sC (.int 0))))))]) (aC (sN pMax [(.ex (sListComp [3] ⟨(sIt (sVar 0)), (.nm 3), bYes⟩ [] (sOp2 pIx2 (.ex (sOp2 pIx2 (.nm 3) (.nm 2))) (.ex (sC (.int 1))))))]) aN))) aN))) (is.map eN) [some (.val (eT th)), some (.own (.lst (b.map eP))), x2, none] =
      .nx [some (.val (eT th)), some (.own (.lst ((b ++ is.map fun k => (loMin th k, hiMax th k)).map eP))), y2, none] := by
    intro is
    induction is with
    | nil => intro b x2 _ _; exact ⟨x2, by simp [forItems_nil]⟩
    | cons i is ih =>
      intro b x2 hi hz
      simp only [List.length_cons] at hz
      obtain ⟨y2, e⟩ := ih (b ++ [(loMin th i, hiMax th i)]) (some (.val (eN i))) (fun j hj => hi j (by simp [hj])) (by simp; omega)
      refine ⟨y2, ?_⟩
      have hzb : b.length < sizeLine := by rw [sizeLine_eq]; omega
      have hzt : th.length ≤ sizeLine := sizeLine_big (by omega)
      have c0 : sListComp [3] ⟨(sIt (sVar 0)), (.nm 3), bYes⟩ [] (sOp2 pIx2 (.ex (sOp2 pIx2 (.nm 3) (.nm 2))) (.ex (sC (.int 0)))) [some (.val (eT th)), some (.own (.lst (b.map eP))), some (.val (eN i)), none] = .ok (.own (.lst ((th.map fun b => b[i]!.1).map .int))) [some (.val (eT th)), some (.own (.lst (b.map eP))), some (.val (eN i)), none] := by
        rw [sLC_one th eB (fun b => .int b[i]!.1) (by simp) (by simp) _ hzt]
        · simp [Function.comp_def]
        · intro c hc
          have hic : i < c.length := by rw [h c hc]; exact hi i (by simp)
          simp [turnC, eN, ix_eB c hic, hic]
      have c1 : sListComp [3] ⟨(sIt (sVar 0)), (.nm 3), bYes⟩ [] (sOp2 pIx2 (.ex (sOp2 pIx2 (.nm 3) (.nm 2))) (.ex (sC (.int 1)))) [some (.val (eT th)), some (.own (.lst (b.map eP))), some (.val (eN i)), none] = .ok (.own (.lst ((th.map fun b => b[i]!.2).map .int))) [some (.val (eT th)), some (.own (.lst (b.map eP))), some (.val (eN i)), none] := by
        rw [sLC_one th eB (fun b => .int b[i]!.2) (by simp) (by simp) _ hzt]
        · simp [Function.comp_def]
        · intro c hc
          have hic : i < c.length := by rw [h c hc]; exact hi i (by simp)
          simp [turnC, eN, ix_eB c hic, hic]
      have m0 := pMin_ints (th.map fun b => b[i]!.1) (by simpa using hne)
      have m1 := pMax_ints (th.map fun b => b[i]!.2) (by simpa using hne)
      rw [List.map_cons, forItems_cons]
      simp only [assignT_nm, List.set, mDrop_ap, sLM_ap, List.getElem?_cons_succ, List.getElem?_cons_zero, aC_ap, sTup_ap, sN1_ap, ph1_ex, ph2_ex, c0, c1, Res.bind_ok, frz_lst, Option.bind_some, m0, m1, Res.ofO_some, frz_val, aN_ap, List.length_cons, List.length_nil, if_pos z2, opAppend, List.length_map, if_pos hzb, Res.out_ok, Out.turn_nx]
      have e2 : b.map eP ++ [PyData.tuple [.int (loMin th i), .int (hiMax th i)]] = (b ++ [(loMin th i, hiMax th i)]).map eP := by simp [eP]
      have e3 : (b ++ (i :: is).map fun k => (loMin th k, hiMax th k)) = b ++ [(loMin th i, hiMax th i)] ++ is.map fun k => (loMin th k, hiMax th k) := by simp
      rw [e3, ← e, ← e2]
      rfl
  obtain ⟨y2, e⟩ := loop (List.range n) [] none (by simp) (by simpa using hn)
  have hix : pIx2 (eT th) (.int 0) = some (.val (eB th[0])) := ix_eT th (i := 0) h0
  have hln : (th[0]).length = n := h _ (List.getElem_mem h0)
  have e0 : (0 : Nat) ≤ sizeLine := Nat.zero_le _
  unfold F_hull m_hull
  refine (ofBody_rt (ρ := [some (.val (eT th)), some (.own (.lst ((hullB th n).map eP))), y2, none]) (r := .val (eB (hullB th n))) ?_)
  simp only [List.map_cons, List.map_nil, List.replicate, List.cons_append, List.nil_append]
  rw [mSeq_ap, mSet_ap, sLst_ap, aN_ap, Res.bind_ok, List.length_nil, if_pos e0, Res.out_ok, Out.seq_nx, mSeq_ap, mFor_ap, sRange1_s (n := n) (by simp [hix, hln]) (by omega), Res.out_ok]
  simp only [List.set, List.map_nil] at e ⊢
  rw [e, Out.seq_nx, mRet_ap, sN1_ap]
  simp [eB, hullB]
end Sd.K04
set_option Elab.async false
set_option linter.all false
set_option maxRecDepth 100000
set_option maxHeartbeats 4000000
set_option autoImplicit false
namespace Sd.K04
open PySem PySem.Spec PyProof.Rows L2 C8 Sd PySem.W

theorem seq_assoc (o : Out) (a b : MS) : o.seq (mSeq a b) = (o.seq a).seq b := by
  cases o with
  | nx ρ => rw [Out.seq_nx, Out.seq_nx, mSeq_ap]
  | _ => rfl
theorem pRep_k (i k : Int) (h0 : 0 ≤ k) (h1 : k < 1000000000000) : pRep (.int i) (.int k) = some (.val (.int (i * k))) := by
  have e64 : (2 : Int) ^ 64 = 18446744073709551616 := by decide
  unfold pRep
  simp only
  rw [if_pos (.inr ⟨by rw [e64]; omega, by rw [e64]; omega⟩)]
  rfl
theorem pPow_18 : pPow (.int 10) (.int 18) = some (.val (.int 1000000000000000000)) := by
  unfold pPow
  simp only
  rw [if_pos ⟨by omega, by omega, by decide⟩]
  rfl
theorem pMod_k (i k : Int) (h0 : 0 < k) : pMod (.int i) (.int k) = some (.val (.int (i % k))) := by
  unfold pMod
  simp only
  rw [if_pos h0]
  rfl
theorem pDiv_k (i k : Int) (h0 : 0 < k) (h1 : k < 1073741824) : pDiv (.int i) (.int k) = some (.val (.int (i / k))) := by
  unfold pDiv
  simp only
  rw [if_pos ⟨h0, h1⟩]
  rfl
theorem pInt_i (i : Int) : pInt [.int i] = some (.val (.int i)) := rfl
theorem pAbs_i (i : Int) : pAbs [.int i] = some (.val (.int (if i < 0 then -i else i))) := rfl
theorem app_i (ds : List Int) (i : Int) (h : ds.length < 1000000) : opAppend (ds.map eI) [.int i] = some (.none, (ds ++ [i]).map eI) := by
  unfold opAppend
  simp only
  rw [if_pos (by rw [List.length_map, sizeLine_eq]; omega)]
  simp [eI]
theorem draws_in (S c x4 x6 : Option Sl) : ∀ (is : List Nat) (ds : List Int) (m : Int) (x5 : Option Sl), ds.length + is.length ≤ 100000 → ∃ (es : List Int) (k : Int) (y5 : Option Sl), es.length ≤ ds.length + is.length ∧
    forItems (.nm 5) (mIf (bVal (sOp2 pGt (.nm 3) (.ex (sC (.int 0))))) (mSeq (mDrop (sLM opAppend 1 (aC (sOp2 pMod (.ex (sN pInt [(.nm 3)])) (.ex (sC (.int 997)))) aN))) (mSet 3 (sOp2 pDiv (.nm 3) (.ex (sC (.int 997)))))) mNext) (is.map eN) [S, some (.own (oI ds)), c, some (.val (.int m)), x4, x5, x6] =
      .nx [S, some (.own (oI es)), c, some (.val (.int k)), x4, y5, x6]
  | [], ds, m, x5, _ => ⟨ds, m, x5, by simp, rfl⟩
  | i :: is, ds, m, x5, hl => by
    simp only [List.length_cons] at hl
    by_cases hm : 0 < m
    · obtain ⟨es, k, y5, l, e⟩ := draws_in S c x4 x6 is (ds ++ [m % 997]) (m / 997) (some (.val (eN i))) (by simp; omega)
      refine ⟨es, k, y5, by simp at l ⊢; omega, ?_⟩
      rw [List.map_cons, forItems_cons]
      simp [hm, oI, pInt_i, pMod_k, pDiv_k, app_i _ _ (show ds.length < 1000000 by omega)]
      simpa [oI] using e
    · obtain ⟨es, k, y5, l, e⟩ := draws_in S c x4 x6 is ds m (some (.val (eN i))) (by omega)
      refine ⟨es, k, y5, by simp; omega, ?_⟩
      rw [List.map_cons, forItems_cons]
      simp [hm]
      exact e
theorem draws_out (S x6 : Option Sl) : ∀ (ns : List Int) (ds : List Int) (x2 x3 x4 x5 : Option Sl), ds.length + 62 * ns.length ≤ 10000 → ∃ (es : List Int) (y2 y3 y4 y5 : Option Sl), es.length ≤ ds.length + 62 * ns.length ∧
    forItems (.nm 2) (mSeq (mSet 3 (sN pAbs [(.nm 2)])) (mSeq (mIf (bVal (sOp2 pLt (.nm 3) (.ex (sOp2 pPow (.ex (sC (.int 10))) (.ex (sC (.int 18))))))) (mSeq (mSet 4 (sOp2 pMod (.ex (sN pInt [(.ex (sOp2 pAdd (.ex (sOp2 pRep (.nm 3) (.ex (sC (.int 48271))))) (.ex (sC (.int 11)))))])) (.ex (sC (.int 2147483647))))) (mSeq (mDrop (sLM opAppend 1 (aC (sOp2 pMod (.ex (sN pInt [(.ex (sOp2 pAdd (.ex (sOp2 pRep (.nm 4) (.ex (sC (.int 69621))))) (.nm 3)))])) (.ex (sC (.int 2147483629)))) aN))) (mSeq (mDrop (sLM opAppend 1 (aC (sOp2 pMod (.ex (sN pInt [(.ex (sOp2 pAdd (.nm 4) (.ex (sOp2 pDiv (.nm 3) (.ex (sC (.int 7)))))))])) (.ex (sC (.int 1000003)))) aN))) (mSet 3 (sC (.int 0)))))) mNext) (mFor (sRange1 (aC (sC (.int 60)) aN)) (.nm 5) (mIf (bVal (sOp2 pGt (.nm 3) (.ex (sC (.int 0))))) (mSeq (mDrop (sLM opAppend 1 (aC (sOp2 pMod (.ex (sN pInt [(.nm 3)])) (.ex (sC (.int 997)))) aN))) (mSet 3 (sOp2 pDiv (.nm 3) (.ex (sC (.int 997)))))) mNext)))) (ns.map eI) [S, some (.own (oI ds)), x2, x3, x4, x5, x6] =
      .nx [S, some (.own (oI es)), y2, y3, y4, y5, x6]
  | [], ds, x2, x3, x4, x5, _ => ⟨ds, x2, x3, x4, x5, by simp, rfl⟩
  | n :: ns, ds, x2, x3, x4, x5, hl => by
    simp only [List.length_cons] at hl
    have rg : ∀ ρ : Ev, sRange1 (aC (sC (.int 60)) aN) ρ = .ok ((List.range 60).map eN) ρ := fun ρ => sRange1_n (n := 60) (by simp) (by omega)
    have ab : ∀ m : Int, m = (if n < 0 then -n else n) → ∃ (ds1 : List Int) (m1 : Int) (z4 : Option Sl), ds1.length ≤ ds.length + 2 ∧
       ((mSeq (mSet 3 (sN pAbs [(.nm 2)])) (mIf (bVal (sOp2 pLt (.nm 3) (.ex (sOp2 pPow (.ex (sC (.int 10))) (.ex (sC (.int 18))))))) (mSeq (mSet 4 (sOp2 pMod (.ex (sN pInt [(.ex (sOp2 pAdd (.ex (sOp2 pRep (.nm 3) (.ex (sC (.int 48271))))) (.ex (sC (.int 11)))))])) (.ex (sC (.int 2147483647))))) (mSeq (mDrop (sLM opAppend 1 (aC (sOp2 pMod (.ex (sN pInt [(.ex (sOp2 pAdd (.ex (sOp2 pRep (.nm 4) (.ex (sC (.int 69621))))) (.nm 3)))])) (.ex (sC (.int 2147483629)))) aN))) (mSeq (mDrop (sLM opAppend 1 (aC (sOp2 pMod (.ex (sN pInt [(.ex (sOp2 pAdd (.nm 4) (.ex (sOp2 pDiv (.nm 3) (.ex (sC (.int 7)))))))])) (.ex (sC (.int 1000003)))) aN))) (mSet 3 (sC (.int 0)))))) mNext)) [S, some (.own (oI ds)), some (.val (eI n)), x3, x4, x5, x6] = .nx [S, some (.own (oI ds1)), some (.val (eI n)), some (.val (.int m1)), z4, x5, x6]) := by
      intro m hm
      by_cases h18 : m < 1000000000000000000
      · refine ⟨(ds ++ [((m * 48271 + 11) % 2147483647 * 69621 + m) % 2147483629]) ++ [((m * 48271 + 11) % 2147483647 + m / 7) % 1000003], 0, some (.val (.int ((m * 48271 + 11) % 2147483647))), by simp, ?_⟩
        simp [eI, pAbs_i, ← hm, pPow_18, h18]
        have a1 := app_i ds (((m * 48271 + 11) % 2147483647 * 69621 + m) % 2147483629) (by omega)
        have a2 := app_i (ds ++ [((m * 48271 + 11) % 2147483647 * 69621 + m) % 2147483629]) (((m * 48271 + 11) % 2147483647 + m / 7) % 1000003) (by simp; omega)
        simp only [List.map_append, List.map_cons, List.map_nil] at a1 a2
        simp [pRep_k, pInt_i, pMod_k, pDiv_k, oI, eI] at a1 a2 ⊢
        simp [a1, a2, pMod_k, pInt_i, pDiv_k]
      · refine ⟨ds, m, x4, by omega, ?_⟩
        simp [eI, pAbs_i, ← hm, pPow_18, h18]
    obtain ⟨ds1, m1, z4, l1, e1⟩ := ab _ rfl
    obtain ⟨es, k, z5, l2, e2⟩ := draws_in S (some (.val (eI n))) z4 x6 (List.range 60) ds1 m1 x5 (by simp; omega)
    obtain ⟨fs, y2, y3, y4, y5, l3, e3⟩ := draws_out S x6 ns es (some (.val (eI n))) (some (.val (.int k))) z4 z5 (by simp at l2; omega)
    refine ⟨fs, y2, y3, y4, y5, by simp at l2 ⊢; omega, ?_⟩
    rw [List.map_cons, forItems_cons, assignT_nm]
    simp only [List.set]
    rw [mSeq_ap] at e1 ⊢
    rw [seq_assoc, e1, Out.seq_nx, mFor_ap, rg, Res.out_ok, e2, Out.turn_nx, e3]
theorem draws_end (S x2 x3 x4 : Option Sl) : ∀ (is : List Nat) (ds : List Int) (s : Int) (x5 : Option Sl), ds.length + is.length ≤ 100000 → ∃ (es : List Int) (k : Int) (y5 : Option Sl),
    forItems (.nm 5) (mSeq (mSet 6 (sOp2 pMod (.ex (sN pInt [(.ex (sOp2 pAdd (.ex (sOp2 pRep (.nm 6) (.ex (sC (.int 48271))))) (.ex (sC (.int 69621)))))])) (.ex (sC (.int 2147483647))))) (mDrop (sLM opAppend 1 (aC (sOp2 pDiv (.nm 6) (.ex (sC (.int 5)))) aN)))) (is.map eN) [S, some (.own (oI ds)), x2, x3, x4, x5, some (.val (.int s))] =
      .nx [S, some (.own (oI es)), x2, x3, x4, y5, some (.val (.int k))]
  | [], ds, s, x5, _ => ⟨ds, s, x5, rfl⟩
  | i :: is, ds, s, x5, hl => by
    simp only [List.length_cons] at hl
    obtain ⟨es, k, y5, e⟩ := draws_end S x2 x3 x4 is (ds ++ [((s * 48271 + 69621) % 2147483647) / 5]) ((s * 48271 + 69621) % 2147483647) (some (.val (eN i))) (by simp; omega)
    refine ⟨es, k, y5, ?_⟩
    rw [List.map_cons, forItems_cons]
    simp [oI, pInt_i, pRep_k, pMod_k, pDiv_k, app_i _ _ (show ds.length < 1000000 by omega)]
    simpa [oI] using e
theorem draws_ok (ns : List Int) (h : ns.length ≤ 63) : ∃ ds : List Int, F__law_draws [.list (ns.map .int)] = .ok (.own (oI ds)) := by
  obtain ⟨d1, y2, y3, y4, y5, l1, e1⟩ := draws_out (some (.val (.list (ns.map eI)))) none ns [] none none none none (by simp; omega)
  simp only [List.length_nil, Nat.zero_add] at l1
  have sd : ∃ s : Int, (mSeq (mSet 6 (sC (.int 1))) (mIf (bVal (sOp2 pGt (.ex (sN pLen2 [(.nm 0)])) (.ex (sC (.int 0))))) (mSet 6 (sOp2 pAdd (.ex (sC (.int 1))) (.ex (sN pAbs [(.ex (sOp2 pIx2 (.nm 0) (.ex (sC (.int 0)))))])))) mNext)) [some (.val (.list (ns.map eI))), some (.own (oI d1)), y2, y3, y4, y5, none] = .nx [some (.val (.list (ns.map eI))), some (.own (oI d1)), y2, y3, y4, y5, some (.val (.int s))] := by
    cases ns with
    | nil => exact ⟨1, by simp⟩
    | cons n ns =>
      have h0 : (0 : Int) < (ns.length : Int) + 1 := by omega
      exact ⟨1 + (if n < 0 then -n else n), by simp [h0, pAbs_i, eI]⟩
  obtain ⟨s, e2⟩ := sd
  obtain ⟨d2, k, z5, e3⟩ := draws_end (some (.val (.list (ns.map eI)))) y2 y3 y4 (List.range 900) d1 s y5 (by simp; omega)
  refine ⟨d2.reverse, ?_⟩
  have e0 : (0 : Nat) ≤ sizeLine := Nat.zero_le _
  have rg : ∀ ρ : Ev, sRange1 (aC (sC (.int 900)) aN) ρ = .ok ((List.range 900).map eN) ρ := fun ρ => sRange1_n (n := 900) (by simp) (by omega)
  unfold F__law_draws m__law_draws
  refine ofBody_rt (r := .own (oI d2.reverse)) (ρ := [some (.val (.list (ns.map eI))), some (.own (oI d2)), y2, y3, y4, z5, some (.val (.int k))]) ?_
  show (mSeq _ _) [some (.val (.list (ns.map eI))), none, none, none, none, none, none] = _
  rw [mSeq_ap, mSet_ap, sLst_ap, aN_ap, Res.bind_ok, List.length_nil, if_pos e0, Res.out_ok, Out.seq_nx, mSeq_ap, mFor_ap, sIt_ap, sVar_ap]
  simp only [List.set, List.getElem?_cons_zero, Res.bind_ok, frz_val, iterD_l, Res.out_ok]
  rw [show (some (Sl.own (Ob.lst [])) : Option Sl) = some (.own (oI [])) from rfl, e1, Out.seq_nx]
  rw [mSeq_ap] at e2 ⊢
  rw [seq_assoc, e2, Out.seq_nx, mSeq_ap, mFor_ap, rg, Res.out_ok, e3, Out.seq_nx, mRet_ap]
  simp [pRevL, oI]
end Sd.K04
set_option Elab.async false
set_option linter.all false
set_option maxRecDepth 100000
set_option maxHeartbeats 4000000
set_option autoImplicit false
namespace Sd.K04
open PySem PySem.Spec PyProof.Rows L2 C8 Sd PySem.W

theorem z1 : 1 ≤ sizeLine := sizeLine_big (by decide)
theorem z3 : 3 ≤ sizeLine := sizeLine_big (by decide)
theorem z6 : 6 ≤ sizeLine := sizeLine_big (by decide)
theorem z11 : 11 ≤ sizeLine := sizeLine_big (by decide)
noncomputable def gBent (T : FnL) : MS := (mSeq (mSet 2 (sCallL T 0 (aC (sN pLen2 [(.nm 1)]) aN))) (mSeq (mAsg (.tup [(.nm 3), (.nm 4)]) (sOp2 pIx2 (.nm 1) (.nm 2))) (mSeq (mSet 5 (sOp2 pIx2 (.ex (sLst (aC (sTup (aC (sVar 4) (aC (sVar 3) aN))) (aC (sTup (aC (sVar 3) (aC (sVar 3) aN))) (aC (sTup (aC (sVar 3) aN)) (aC (sLst (aC (sVar 3) (aC (sVar 4) aN))) (aC (sTup (aC (sVar 3) (aC (sC (.int 1001)) aN))) (aC (sTup (aC (sOp1 pNeg (.ex (sC (.int 1001)))) (aC (sVar 4) aN))) (aC (sTup (aC (sC (.bool true)) (aC (sC (.int 2)) aN))) (aC (sTup (aC (sC .none) (aC (sVar 4) aN))) (aC (sC .none) (aC (sTup (aC (sVar 3) (aC (sVar 4) (aC (sVar 4) aN)))) (aC (sTup (aC (sC (.str "1")) (aC (sVar 4) aN))) aN))))))))))))) (.ex (sCallL T 0 (aC (sC (.int 11)) aN))))) (mRet (sOp2 pIx2 (.ex (sLst (aC (sOp2 pAdd (.ex (sOp2 pAdd (.ex (sSl (.nm 1) .no (.ex (sVar 2)))) (.ex (sTup (aC (sVar 5) aN))))) (.ex (sSl (.nm 1) (.ex (sOp2 pAdd (.nm 2) (.ex (sC (.int 1))))) .no))) (aC (sN pListC2 [(.nm 1)]) (aC (sSl (.nm 1) .no (.ex (sC (.int 1)))) (aC (sOp2 pAdd (.ex (sOp2 pAdd (.nm 1) (.nm 1))) (.ex (sSl (.nm 1) .no (.ex (sC (.int 1)))))) (aC (sC .none) (aC (sTup aN) aN)))))))) (.ex (sN pMin [(.ex (sC (.int 5))), (.ex (sOp2 pDiv (.ex (sCallL T 0 (aC (sC (.int 9)) aN))) (.ex (sC (.int 2)))))])))))))
theorem bent_is : F__law_bent = ofBodyL 4 (gBent F__law_take) := rfl
def TakeOk (T : FnL) : Prop := ∀ (ds : List Int) (b : Int), 0 < b → ∃ (r : Int) (es : List Int), 0 ≤ r ∧ r < b ∧ T (oI ds) [.int b] = .ok (.val (.int r)) (.own (oI es))
theorem atI_mem {α : Type} {xs : List α} {i : Int} (h0 : 0 ≤ i) (h1 : i < xs.length) : ∃ x ∈ xs, L2.atI xs i = some x := by
  obtain ⟨k, rfl⟩ := Int.eq_ofNat_of_zero_le h0
  have hk : k < xs.length := by omega
  exact ⟨xs[k], List.getElem_mem hk, atI_lt hk⟩
theorem pAdd_tt (xs ys : List D) (h : xs.length + ys.length ≤ 1000000) : pAdd (.tuple xs) (.tuple ys) = some (.val (.tuple (xs ++ ys))) := by
  show (if xs.length + ys.length ≤ sizeLine then some (Sl.val (.tuple (xs ++ ys))) else none) = _
  rw [if_pos (sizeLine_big h)]
theorem pSl_t (lo hi : Option Int) (xs : List D) : pSl lo hi (.tuple xs) = some (.val (.tuple (cutD xs lo hi))) := rfl
theorem plainAll_app (xs ys : List D) : PyData.plainAll (xs ++ ys) = (PyData.plainAll xs && PyData.plainAll ys) := by
  induction xs with
  | nil => simp
  | cons x xs ih => simp [ih, Bool.and_assoc]
def bents (lo hi : Int) : List D := [.tuple [.int hi, .int lo], .tuple [.int lo, .int lo], .tuple [.int lo], .list [.int lo, .int hi], .tuple [.int lo, .int 1001], .tuple [.int (-1001), .int hi], .tuple [.bool true, .int 2], .tuple [.none, .int hi], .none, .tuple [.int lo, .int hi, .int hi], .tuple [.str "1", .int hi]]
theorem bents_bad (lo hi : Int) (h : lo < hi) : ∀ d ∈ bents lo hi, d.plain = true ∧ stretchB d = false := by
  intro d hd
  unfold bents at hd
  simp only [List.mem_cons, List.not_mem_nil, or_false] at hd
  rcases hd with rfl | rfl | rfl | rfl | rfl | rfl | rfl | rfl | rfl | rfl | rfl <;> refine ⟨by simp, ?_⟩ <;> simp [stretchB] <;> omega
def bent2 (b : Bx) (pre post : Bx) (x : D) : List D := [.tuple ((pre.map eP ++ [x]) ++ post.map eP), .list (b.map eP), .tuple ((b.map eP).take 1), .tuple ((b.map eP ++ b.map eP) ++ (b.map eP).take 1), .none, .tuple []]
theorem bent2_bad (b pre post : Bx) (x : D) (hl : b.length = 2 ∨ b.length = 3) (hp : x.plain = true) (hx : stretchB x = false) : ∀ d ∈ bent2 b pre post x, d.plain = true ∧ boxB d = false := by
  intro d hd
  have pm : ∀ c : Bx, PyData.plainAll (c.map eP) = true := fun c => plainAll_map eP plain_eP c
  unfold bent2 at hd
  simp only [List.mem_cons, List.not_mem_nil, or_false] at hd
  rcases hd with rfl | rfl | rfl | rfl | rfl | rfl
  · refine ⟨by rw [plain_tuple, plainAll_app, plainAll_app, pm, pm]; simp [hp], ?_⟩
    simp only [boxB, List.all_append, List.all_cons, List.all_nil, hx, Bool.and_false, Bool.false_and, Bool.and_true]
  · exact ⟨by rw [plain_list, pm], rfl⟩
  · refine ⟨by rw [plain_tuple, ← List.map_take, pm], ?_⟩
    have : ((b.map eP).take 1).length = 1 := by simp; omega
    simp only [boxB, this]
    rfl
  · refine ⟨by rw [plain_tuple, plainAll_app, plainAll_app, pm, ← List.map_take, pm]; rfl, ?_⟩
    simp only [boxB, List.length_append, List.length_map, List.length_take]
    rcases hl with h | h <;> rw [h] <;> rfl
  · exact ⟨by simp, rfl⟩
  · exact ⟨by simp, rfl⟩
theorem bent_gen (T : FnL) (hT : TakeOk T) (b : Bx) (hl : b.length = 2 ∨ b.length = 3) (hb : ∀ p ∈ b, p.1 < p.2) (ds : List Int) :
    ∃ (x : D) (es : List Int), x.plain = true ∧ boxB x = false ∧ ofBodyL 4 (gBent T) (oI ds) [eB b] = .ok (.val x) (.own (oI es)) := by
  have hlb : (0 : Int) < b.length := by omega
  obtain ⟨k, e1, k0, k1, t1⟩ := hT ds b.length hlb
  obtain ⟨k, rfl⟩ := Int.eq_ofNat_of_zero_le k0
  have hk : k < b.length := by omega
  obtain ⟨j, e2, j0, j1, t2⟩ := hT e1 11 (by omega)
  obtain ⟨i, e3, i0, i1, t3⟩ := hT e2 9 (by omega)
  obtain ⟨pre, p, post, hbe, hpre⟩ : ∃ pre p post, b = pre ++ p :: post ∧ pre.length = k :=
    ⟨b.take k, b[k], b.drop (k + 1), by rw [List.getElem_cons_drop, List.take_append_drop], by simp; omega⟩
  have hp : p.1 < p.2 := hb p (by rw [hbe]; simp)
  obtain ⟨x, hx, ax⟩ := atI_mem (xs := bents p.1 p.2) j0 (by simpa [bents] using j1)
  obtain ⟨px, sx⟩ := bents_bad p.1 p.2 hp x hx
  obtain ⟨y, hy, ay⟩ := atI_mem (xs := bent2 b pre post x) (i := min 5 (i / 2)) (by omega) (by simp [bent2]; omega)
  obtain ⟨py, sy⟩ := bent2_bad b pre post x hl px sx y hy
  refine ⟨y, e3, py, sy, ?_⟩
  have c0 : pIx2 (eB b) (.int (k : Int)) = some (.val (.tuple [.int p.1, .int p.2])) := by
    show (L2.atI (b.map eP) (k : Int)).map Sl.val = _
    rw [ix_map eP b hk]
    simp [hbe, ← hpre, eP]
  have hbl : (eB b : D) = .tuple (b.map eP) := rfl
  have c1 : pSl none (some (k : Int)) (eB b) = some (.val (.tuple (pre.map eP))) := by
    rw [hbl, pSl_t, hbe, List.map_append, cutD_to _ _ k (by simp [hpre])]
  have c2 : pSl (some ((k : Int) + 1)) none (eB b) = some (.val (.tuple (post.map eP))) := by
    have : ((k : Int) + 1) = ((k + 1 : Nat) : Int) := by omega
    rw [hbl, pSl_t, hbe, this, show pre ++ p :: post = (pre ++ [p]) ++ post by simp, List.map_append, cutD_from _ _ (k + 1) (by simp [hpre])]
  have c3 : pSl none (some 1) (eB b) = some (.val (.tuple ((b.map eP).take 1))) := by
    rw [hbl, pSl_t, show b.map eP = (b.map eP).take 1 ++ (b.map eP).drop 1 by rw [List.take_append_drop], show (1 : Int) = ((1 : Nat) : Int) from rfl, cutD_to _ _ 1 (by simp; omega), List.take_append_drop]
  have lp : pre.length + 1 + post.length = b.length := by rw [hbe]; simp; omega
  have z : ∀ n : Nat, n ≤ 1000000 → n ≤ sizeLine := fun n h => sizeLine_big h
  have d1 : pAdd (.tuple (pre.map eP)) (.tuple [x]) = some (.val (.tuple (pre.map eP ++ [x]))) := pAdd_tt _ _ (by simp; omega)
  have d2 : pAdd (.tuple (pre.map eP ++ [x])) (.tuple (post.map eP)) = some (.val (.tuple ((pre.map eP ++ [x]) ++ post.map eP))) := pAdd_tt _ _ (by simp; omega)
  have d3 : pAdd (eB b) (eB b) = some (.val (.tuple (b.map eP ++ b.map eP))) := pAdd_tt _ _ (by simp; omega)
  have d4 : pAdd (.tuple (b.map eP ++ b.map eP)) (.tuple ((b.map eP).take 1)) = some (.val (.tuple ((b.map eP ++ b.map eP) ++ (b.map eP).take 1))) := pAdd_tt _ _ (by simp; omega)
  have ln : pLen2 [eB b] = some (.val (.int b.length)) := by rw [hbl, pLen2_tuple, List.length_map]
  have lc : pListC2 [eB b] = some (.own (.lst (b.map eP))) := by rw [hbl, pListC2_tuple]
  have r1 : pIx2 (.list (bents p.1 p.2)) (.int j) = some (.val x) := by rw [pIx2_l, ax]; rfl
  have r2 : pIx2 (.list (bent2 b pre post x)) (.int (min 5 (i / 2))) = some (.val y) := by rw [pIx2_l, ay]; rfl
  refine Eq.trans (ofBodyL_rt [some (.own (oI ds)), some (.val (eB b)), none, none, none, none] [some (.own (oI e3)), some (.val (eB b)), some (.val (.int k)), some (.val (.int p.1)), some (.val (.int p.2)), some (.val x)] (r := .val y) rfl ?_) rfl
  unfold bents at ax
  unfold bent2 at ay
  simp only [List.append_assoc, List.cons_append, List.nil_append] at ay
  unfold gBent
  simp [ln, t1, c0]
  simp [z1, z2, z3, z11, t2]
  simp [ax]
  simp only [List.append_assoc] at d2 d4
  simp [c1, c2, c3, d3, d4, d1, d2, lc, z1, z6, t3, pDiv_k i 2 (by omega) (by omega), ay]
theorem law_bent (b : Bx) (hl : b.length = 2 ∨ b.length = 3) (hb : ∀ p ∈ b, p.1 < p.2) (ds : List Int) : ∃ (x : D) (es : List Int), x.plain = true ∧ boxB x = false ∧ F__law_bent (oI ds) [eB b] = .ok (.val x) (.own (oI es)) := by
  rw [bent_is]
  exact bent_gen F__law_take law_take b hl hb ds
theorem law_thing (n : Nat) (h0 : 0 < n) (h1 : n ≤ 1000) (c : Nat) (hc : 0 < c) (hc2 : c ≤ 1000) (ds : List Int) :
    ∃ (th : List Bx) (es : List Int), 0 < th.length ∧ th.length ≤ c ∧ (∀ b ∈ th, b.length = n ∧ ∀ p ∈ b, near p) ∧ (th.Pairwise fun a b => ltB a b = true) ∧ F__law_thing (oI ds) [.int (n : Int), .int (c : Int), .int 3, .int 3] = .ok (.val (eT th)) (.own (oI es)) := by
  rw [thing_is]
  exact thing_gen F__law_take F__law_box n h0 law_take (fun ds => law_box_ok ds n h1) c hc hc2 ds
end Sd.K04
set_option Elab.async false
set_option linter.all false
set_option maxRecDepth 100000
set_option maxHeartbeats 400000
set_option autoImplicit false
namespace Sd.K04
open PySem PySem.Spec PyProof.Rows L2 C8 Sd PySem.W
def letterB (n : Nat) : Bool := !(Builtin.Str.occurrences (Str.ofString "abcdefghijklmnopqrstuvwxyz") ⟨#[n]⟩ 0 (Str.ofString "abcdefghijklmnopqrstuvwxyz").length 1).isEmpty
def wordB (x : Str) : Bool := (decide (1 ≤ x.length) && decide (x.length ≤ 6)) && x.cps.toList.all letterB
theorem is_word_str (x : Str) (hx : x.length ≤ 1000) : F_is_word [.str x] = .ok (.val (.bool (wordB x))) := by
  have ln : pLen2 [.str x] = some (.val (.int x.length)) := by simp [pLen2, pLen, vI]; exact sizeLine_big (by omega)
  unfold F_is_word m_is_word ofBody
  simp only [List.map_cons, List.map_nil, List.replicate, List.cons_append, List.nil_append, mRet_ap, sAnd_ap, sOp1_ap, ph1_nm, ph2_nm, List.getElem?_cons_zero, Res.bind_ok, frz_val, Option.bind_some, pIsi_s _ (plain_str x), PyData.isStr, Res.ofO_some, boolD_b, if_true, sCh_ap, ph1_ex, ph2_ex, sC_ap, sN1_ap, ln, pLe_int]
  by_cases h1 : 1 ≤ x.length
  · have h1' : (1 : Int) ≤ (x.length : Int) := by omega
    simp only [decide_eq_true h1', boolD_b, Res.bind_ok, ph2_ex, ph1_ex, sC_ap, Option.bind_some, frz_val, pLe_int, Res.ofO_some]
    by_cases h2 : x.length ≤ 6
    · have h2' : (x.length : Int) ≤ 6 := by omega
      simp only [decide_eq_true h2', boolD_b, if_true]
      rw [sAll_map x.cps.toList (fun n => PyData.str ⟨#[n]⟩) letterB]
      · simp only [Res.out_ok, wordB, decide_eq_true h1, decide_eq_true h2, Bool.true_and]
      · simp [strItems]
      · simp
      · intro n _
        refine ⟨[some (.val (.str x)), some (.val (.str ⟨#[n]⟩))], ?_, fun _ => ?_, ?_⟩
        · simp only [turnA, assignT_nm, bYes_ap, Res.bind_ok, if_true, anyGo_nil, eltB_ap, sOp2_ap, ph1_nm, ph1_ex, ph2_nm, ph2_ex, sC_ap, wipeE_cons, wipeE_nil, List.set, List.getElem?_cons_zero, List.getElem?_cons_succ, frz_val, Option.bind_some]
          have : pIn2 (PyData.str ⟨#[n]⟩) (PyData.str (Str.ofString "abcdefghijklmnopqrstuvwxyz")) = some (.val (.bool (letterB n))) := rfl
          rw [this]
          simp
        · rfl
        · rfl
    · have h2' : ¬ (x.length : Int) ≤ 6 := by omega
      simp [h2', h2, wordB]
  · have h1' : ¬ (1 : Int) ≤ (x.length : Int) := by omega
    simp [h1', h1, wordB]
theorem wb1 : wordB (Str.ofString "a") = true := by decide +kernel
theorem wb2 : wordB (Str.ofString "abcdef") = true := by decide +kernel
theorem wb3 : wordB (Str.ofString "") = false := by decide +kernel
theorem wb4 : wordB (Str.ofString "abcdefg") = false := by decide +kernel
theorem wb5 : wordB (Str.ofString "A") = false := by decide +kernel
theorem wb7 : wordB (Str.ofString "a b") = false := by decide +kernel
theorem w6 : F_is_word [.none] = .ok (.val (.bool false)) := rfl
end Sd.K04
set_option Elab.async false
set_option linter.all false
set_option maxRecDepth 100000
set_option maxHeartbeats 4000000
set_option autoImplicit false
namespace Sd.K04
open PySem PySem.Spec PyProof.Rows L2 C8 Sd PySem.W
noncomputable def a1 (T : FnL) : MS := (mSet 3 (sOp2 pAdd (.ex (sC (.int 2))) (.ex (sCallL T 1 (aC (sC (.int 2)) aN)))))
noncomputable def a2 (B : FnL) : MS := (mAsg (.tup [(.nm 4), (.nm 5)]) (sTup (aC (sCallL B 1 (aC (sVar 3) (aC (sC (.int 3)) (aC (sC (.int 3)) aN)))) (aC (sCallL B 1 (aC (sVar 3) (aC (sC (.int 3)) (aC (sC (.int 3)) aN)))) aN))))
noncomputable def a3 (T : FnL) : MS := (mIf (bVal (sOp2 pEq (.ex (sCallL T 1 (aC (sC (.int 4)) aN))) (.ex (sC (.int 0))))) (mSeq (mSet 6 (sCallL T 1 (aC (sVar 3) aN))) (mSet 5 (sOp2 pAdd (.ex (sOp2 pAdd (.ex (sSl (.nm 5) .no (.ex (sVar 6)))) (.ex (sTup (aC (sTup (aC (sOp2 pIx2 (.ex (sOp2 pIx2 (.nm 4) (.nm 6))) (.ex (sC (.int 1)))) (aC (sOp2 pAdd (.ex (sOp2 pIx2 (.ex (sOp2 pIx2 (.nm 4) (.nm 6))) (.ex (sC (.int 1))))) (.ex (sC (.int 2)))) aN))) aN))))) (.ex (sSl (.nm 5) (.ex (sOp2 pAdd (.nm 6) (.ex (sC (.int 1))))) .no))))) mNext)
noncomputable def a4 (SY : Fn) (IB : Fn) (N : FnL) : MS := (mIf (bOr (bNot (bTru (.ex (sCall SY (aC (sCall IB (aC (sVar 4) aN)) (aC (sC (.bool true)) aN)))))) (bNot (bTru (.ex (sCall SY (aC (sCall IB (aC (sCallL N 1 (aC (sVar 4) aN)) aN)) (aC (sC (.bool false)) aN))))))) (mRet (sC (.bool false))) mNext)
noncomputable def a5  : MS := (mSet 7 (sN pTuple [(.ex (sListComp [8] ⟨(sRange1 (aC (sVar 3) aN)), (.nm 8), bYes⟩ [] (sTup (aC (sN pMax [(.ex (sOp2 pIx2 (.ex (sOp2 pIx2 (.nm 4) (.nm 8))) (.ex (sC (.int 0))))), (.ex (sOp2 pIx2 (.ex (sOp2 pIx2 (.nm 5) (.nm 8))) (.ex (sC (.int 0)))))]) (aC (sN pMin [(.ex (sOp2 pIx2 (.ex (sOp2 pIx2 (.nm 4) (.nm 8))) (.ex (sC (.int 1))))), (.ex (sOp2 pIx2 (.ex (sOp2 pIx2 (.nm 5) (.nm 8))) (.ex (sC (.int 1)))))]) aN)))))]))
noncomputable def a6 (CL : Fn) : MS := (mSet 9 (sCall CL (aC (sVar 4) (aC (sVar 5) aN))))
noncomputable def a7 (SY : Fn) (C : Fn) (AL : Fn) (SH : Fn) : MS := (mIf (bOr (bNot (bTru (.ex (sCall SY (aC (sCall C (aC (sVar 4) (aC (sVar 5) aN))) (aC (sVar 9) aN)))))) (bOr (bNot (bTru (.ex (sCall SY (aC (sCall C (aC (sVar 5) (aC (sVar 4) aN))) (aC (sVar 9) aN)))))) (bNot (bTru (.ex (sCall AL (aC (sCall SH (aC (sVar 4) (aC (sVar 5) aN))) (aC (sIf (bTru (.nm 9)) (sVar 7) (sC .none)) aN)))))))) (mRet (sC (.bool false))) mNext)
noncomputable def a8 (T : FnL) : MS := (mSet 10 (sN pTuple [(.ex (sListComp [6] ⟨(sRange1 (aC (sVar 3) aN)), (.nm 6), bYes⟩ [] (sOp2 pSub (.ex (sCallL T 1 (aC (sC (.int 9)) aN))) (.ex (sC (.int 4))))))]))
noncomputable def a9  : MS := (mSet 11 (sN pTuple [(.ex (sListComp [8] ⟨(sRange1 (aC (sVar 3) aN)), (.nm 8), bYes⟩ [] (sTup (aC (sOp2 pAdd (.ex (sOp2 pIx2 (.ex (sOp2 pIx2 (.nm 4) (.nm 8))) (.ex (sC (.int 0))))) (.ex (sOp2 pIx2 (.nm 10) (.nm 8)))) (aC (sOp2 pAdd (.ex (sOp2 pIx2 (.ex (sOp2 pIx2 (.nm 4) (.nm 8))) (.ex (sC (.int 1))))) (.ex (sOp2 pIx2 (.nm 10) (.nm 8)))) aN)))))]))
noncomputable def a10 (AL : Fn) (SF : Fn) (SY : Fn) (HO : Fn) (WI : Fn) (RO : Fn) (UN : Fn) : MS := (mIf (bOr (bNot (bTru (.ex (sCall AL (aC (sCall SF (aC (sVar 4) (aC (sVar 10) aN))) (aC (sVar 11) aN)))))) (bOr (bNot (bTru (.ex (sCall SY (aC (sCall HO (aC (sVar 4) (aC (sVar 10) aN))) (aC (sCall WI (aC (sVar 4) (aC (sVar 10) aN))) aN)))))) (bVal (sOp2 pNe (.ex (sCall RO (aC (sVar 4) aN))) (.ex (sN pLen2 [(.ex (sCall UN (aC (sLst (aC (sVar 4) aN)) aN)))])))))) (mRet (sC (.bool false))) mNext)
noncomputable def a11 (WO : Fn) : MS := (mSet 12 (sCall WO (aC (sVar 4) (aC (sVar 5) aN))))
noncomputable def a12 (CL : Fn) : MS := (mIf (bOr (bVal (sOp2 pNe (.ex (sListComp [13] ⟨(sIt (sVar 12)), (.nm 13), (bTru (.ex (sCall CL (aC (sVar 13) (aC (sVar 5) aN)))))⟩ [] (sVar 13))) (.ex (sLst aN)))) (bVal (sOp2 pNe (.ex (sListComp [8] ⟨(sRange1 (aC (sN pLen2 [(.nm 12)]) aN)), (.nm 8), (bVal (sOp2 pNe (.ex (sListComp [14] ⟨(sRange1 (aC (sVar 8) aN)), (.nm 14), (bTru (.ex (sCall CL (aC (sOp2 pIx2 (.nm 12) (.nm 14)) (aC (sOp2 pIx2 (.nm 12) (.nm 8)) aN)))))⟩ [] (sVar 14))) (.ex (sLst aN))))⟩ [] (sVar 8))) (.ex (sLst aN))))) (mRet (sC (.bool false))) mNext)
noncomputable def a13 (UN : Fn) : MS := (mIf (bVal (sOp2 pNe (.ex (sN pSorted [(.ex (sN pListC2 [(.ex (sCall UN (aC (sVar 12) aN)))]))])) (.ex (sN pSorted [(.ex (sListComp [15] ⟨(sItK (sCall UN (aC (sLst (aC (sVar 4) aN)) aN))), (.nm 15), (bVal (sOp2 pNotIn2 (.nm 15) (.ex (sCall UN (aC (sLst (aC (sVar 5) aN)) aN)))))⟩ [] (sVar 15)))])))) (mRet (sC (.bool false))) mNext)
noncomputable def a14 (H : FnL) : MS := (mAsg (.tup [(.nm 16), (.nm 17)]) (sTup (aC (sCallL H 1 (aC (sVar 3) (aC (sC (.int 4)) (aC (sC (.int 3)) (aC (sC (.int 3)) aN))))) (aC (sCallL H 1 (aC (sVar 3) (aC (sC (.int 3)) (aC (sC (.int 3)) (aC (sC (.int 3)) aN))))) aN))))
noncomputable def a15 (SY : Fn) (IT : Fn) (DM : Fn) (AL : Fn) (AT : Fn) (SF : Fn) : MS := (mIf (bOr (bNot (bTru (.ex (sCall SY (aC (sCall IT (aC (sVar 16) aN)) (aC (sC (.bool true)) aN)))))) (bOr (bVal (sOp2 pNe (.ex (sCall DM (aC (sVar 16) aN))) (.nm 3))) (bNot (bTru (.ex (sCall AL (aC (sCall AT (aC (sVar 16) (aC (sVar 10) aN))) (aC (sN pTuple [(.ex (sListComp [13] ⟨(sIt (sVar 16)), (.nm 13), bYes⟩ [] (sCall SF (aC (sVar 13) (aC (sVar 10) aN)))))]) aN)))))))) (mRet (sC (.bool false))) mNext)
noncomputable def a16 (SY : Fn) (CS : Fn) (CL : Fn) : MS := (mIf (bNot (bTru (.ex (sCall SY (aC (sCall CS (aC (sVar 16) (aC (sVar 17) aN))) (aC (sOp2 pNe (.ex (sListComp [13] ⟨(sIt (sVar 16)), (.nm 13), (bVal (sOp2 pNe (.ex (sListComp [18] ⟨(sIt (sVar 17)), (.nm 18), (bTru (.ex (sCall CL (aC (sVar 13) (aC (sVar 18) aN)))))⟩ [] (sVar 18))) (.ex (sLst aN))))⟩ [] (sVar 13))) (.ex (sLst aN))) aN)))))) (mRet (sC (.bool false))) mNext)
noncomputable def a17 (VO : Fn) (UN : Fn) : MS := (mIf (bOr (bVal (sOp2 pNe (.ex (sCall VO (aC (sVar 16) aN))) (.ex (sN pLen2 [(.ex (sCall UN (aC (sVar 16) aN)))])))) (bVal (sOp2 pNe (.ex (sCall VO (aC (sOp2 pAdd (.ex (sN pListC2 [(.nm 16)])) (.ex (sN pListC2 [(.nm 17)]))) aN))) (.ex (sN pLen2 [(.ex (sCall UN (aC (sOp2 pAdd (.nm 16) (.nm 17)) aN)))]))))) (mRet (sC (.bool false))) mNext)
noncomputable def a18  : MS := (mSet 19 (sIf (bVal (sOp2 pNe (.nm 12) (.ex (sLst aN)))) (sOp2 pAdd (.ex (sN pTuple [(.nm 12)])) (.nm 17)) (sVar 17)))
noncomputable def a19 (UN : Fn) : MS := (mSet 20 (sOp2 pEq (.ex (sN pSorted [(.ex (sN pListC2 [(.ex (sCall UN (aC (sOp2 pAdd (.nm 19) (.ex (sTup (aC (sVar 5) aN)))) aN)))]))])) (.ex (sN pSorted [(.ex (sN pListC2 [(.ex (sCall UN (aC (sOp2 pAdd (.ex (sTup (aC (sVar 4) (aC (sVar 5) aN)))) (.nm 17)) aN)))]))]))))
noncomputable def a20 (SY : Fn) (SR : Fn) (UN : Fn) : MS := (mIf (bOr (bNot (bTru (.ex (sCall SY (aC (sCall SR (aC (sOp2 pAdd (.nm 19) (.ex (sTup (aC (sVar 5) aN)))) (aC (sOp2 pAdd (.ex (sTup (aC (sVar 4) (aC (sVar 5) aN)))) (.nm 17)) aN))) (aC (sVar 20) aN)))))) (bNot (bTru (.ex (sCall SY (aC (sCall SR (aC (sVar 16) (aC (sVar 17) aN))) (aC (sOp2 pEq (.ex (sN pSorted [(.ex (sN pListC2 [(.ex (sCall UN (aC (sVar 16) aN)))]))])) (.ex (sN pSorted [(.ex (sN pListC2 [(.ex (sCall UN (aC (sVar 17) aN)))]))]))) aN))))))) (mRet (sC (.bool false))) mNext)
noncomputable def a21 (AL : Fn) (HU : Fn) : MS := (mIf (bNot (bTru (.ex (sCall AL (aC (sCall HU (aC (sVar 16) aN)) (aC (sN pTuple [(.ex (sListComp [8] ⟨(sRange1 (aC (sVar 3) aN)), (.nm 8), bYes⟩ [] (sTup (aC (sN pMin [(.ex (sListComp [13] ⟨(sIt (sVar 16)), (.nm 13), bYes⟩ [] (sOp2 pIx2 (.ex (sOp2 pIx2 (.nm 13) (.nm 8))) (.ex (sC (.int 0))))))]) (aC (sN pMax [(.ex (sListComp [13] ⟨(sIt (sVar 16)), (.nm 13), bYes⟩ [] (sOp2 pIx2 (.ex (sOp2 pIx2 (.nm 13) (.nm 8))) (.ex (sC (.int 1))))))]) aN)))))]) aN)))))) (mRet (sC (.bool false))) mNext)
noncomputable def a22 (T : FnL) : MS := (mSet 8 (sCallL T 1 (aC (sN pLen2 [(.nm 16)]) aN)))
noncomputable def a23 (N : FnL) : MS := (mSet 21 (sLst (aC (sC .none) (aC (sTup aN) (aC (sN pListC2 [(.nm 16)]) (aC (sOp2 pAdd (.ex (sOp2 pAdd (.ex (sSl (.nm 16) .no (.ex (sVar 8)))) (.ex (sTup (aC (sCallL N 1 (aC (sOp2 pIx2 (.nm 16) (.nm 8)) aN)) aN))))) (.ex (sSl (.nm 16) (.ex (sOp2 pAdd (.nm 8) (.ex (sC (.int 1))))) .no))) (aC (sOp2 pAdd (.nm 16) (.ex (sSl (.nm 16) (.ex (sOp1 pNeg (.ex (sC (.int 1))))) .no))) (aC (sOp2 pAdd (.ex (sOp2 pAdd (.ex (sSl (.nm 16) .no (.ex (sVar 8)))) (.ex (sTup (aC (sC .none) aN))))) (.ex (sSl (.nm 16) (.ex (sOp2 pAdd (.nm 8) (.ex (sC (.int 1))))) .no))) aN))))))))
noncomputable def a24  : MS := (mSet 21 (sOp2 pAdd (.nm 21) (.ex (sLst (aC (sTup (aC (sOp2 pAdd (.ex (sSl (.ex (sOp2 pIx2 (.nm 16) (.ex (sC (.int 0))))) .no (.ex (sC (.int 2))))) (.ex (sOp2 pRep (.ex (sTup (aC (sTup (aC (sC (.int 0)) (aC (sC (.int 1)) aN))) aN))) (.ex (sOp2 pSub (.ex (sC (.int 3))) (.nm 3)))))) (aC (sOp2 pAdd (.ex (sOp2 pIx2 (.nm 16) (.ex (sC (.int 0))))) (.ex (sTup (aC (sTup (aC (sC (.int 0)) (aC (sC (.int 1)) aN))) aN)))) aN))) aN)))))
noncomputable def a25  : MS := (mIf (bVal (sOp2 pGt (.ex (sN pLen2 [(.nm 16)])) (.ex (sC (.int 1))))) (mDrop (sLM opAppend 21 (aC (sOp1 pRev (.nm 16)) aN))) mNext)
noncomputable def a26 (SY : Fn) (IT : Fn) : MS := (mIf (bVal (sOp2 pNe (.ex (sListComp [22] ⟨(sIt (sVar 21)), (.nm 22), (bNot (bTru (.ex (sCall SY (aC (sCall IT (aC (sVar 22) aN)) (aC (sC (.bool false)) aN))))))⟩ [] (sVar 22))) (.ex (sLst aN)))) (mRet (sC (.bool false))) mNext)
noncomputable def a27  : MS := (mSet 23 (sLst (aC (sOp2 pRep (.ex (sTup (aC (sC (.int 4000)) aN))) (.nm 3)) (aC (sOp2 pRep (.ex (sTup (aC (sOp1 pNeg (.ex (sC (.int 4000)))) aN))) (.nm 3)) (aC (sOp2 pAdd (.ex (sTup (aC (sC (.int 4001)) aN))) (.ex (sOp2 pRep (.ex (sTup (aC (sC (.int 0)) aN))) (.ex (sOp2 pSub (.nm 3) (.ex (sC (.int 1)))))))) (aC (sOp2 pRep (.ex (sTup (aC (sC (.int 0)) aN))) (.ex (sOp2 pAdd (.nm 3) (.ex (sC (.int 1)))))) (aC (sOp2 pRep (.ex (sLst (aC (sC (.int 0)) aN))) (.nm 3)) (aC (sOp2 pAdd (.ex (sTup (aC (sC (.bool true)) aN))) (.ex (sOp2 pRep (.ex (sTup (aC (sC (.int 0)) aN))) (.ex (sOp2 pSub (.nm 3) (.ex (sC (.int 1)))))))) (aC (sC .none) aN)))))))))
noncomputable def a28 (IP : Fn) : MS := (mIf (bVal (sOp2 pNe (.ex (sListComp [22] ⟨(sIt (sVar 23)), (.nm 22), bYes⟩ [] (sCall IP (aC (sVar 22) (aC (sVar 3) aN))))) (.ex (sOp2 pAdd (.ex (sLst (aC (sC (.bool true)) (aC (sC (.bool true)) aN)))) (.ex (sOp2 pRep (.ex (sLst (aC (sC (.bool false)) aN))) (.ex (sC (.int 5))))))))) (mRet (sC (.bool false))) mNext)
noncomputable def e1  : MS := (mSet 24 (sN pTuple [(.ex (sListComp [8] ⟨(sRange1 (aC (sC (.int 8)) aN)), (.nm 8), bYes⟩ [] (sTup (aC (sTup (aC (sVar 8) (aC (sOp2 pAdd (.nm 8) (.ex (sC (.int 1)))) aN))) (aC (sTup (aC (sC (.int 0)) (aC (sC (.int 1)) aN))) aN)))))]))
noncomputable def e2 (IT : Fn) (IN : Fn) : MS := (mIf (bOr (bVal (sOp2 pIsNot (.ex (sCall IT (aC (sVar 24) aN))) (.ex (sC (.bool true))))) (bOr (bVal (sOp2 pIsNot (.ex (sCall IT (aC (sOp2 pAdd (.nm 24) (.ex (sTup (aC (sTup (aC (sTup (aC (sC (.int 8)) (aC (sC (.int 9)) aN))) (aC (sTup (aC (sC (.int 0)) (aC (sC (.int 1)) aN))) aN))) aN)))) aN))) (.ex (sC (.bool false))))) (bVal (sOp2 pNe (.ex (sListComp [22] ⟨(sIt (sLst (aC (sC (.int 0)) (aC (sC (.int 5)) (aC (sC (.int 6)) (aC (sC (.bool true)) (aC (sC .none) aN))))))), (.nm 22), bYes⟩ [] (sCall IN (aC (sVar 22) (aC (sC (.int 0)) (aC (sC (.int 5)) aN)))))) (.ex (sLst (aC (sC (.bool true)) (aC (sC (.bool true)) (aC (sC (.bool false)) (aC (sC (.bool false)) (aC (sC (.bool false)) aN))))))))))) (mRet (sC (.bool false))) mNext)
noncomputable def e3 (IW : Fn) : MS := (mRet (sOp2 pEq (.ex (sListComp [22] ⟨(sIt (sLst (aC (sC (.str "a")) (aC (sC (.str "abcdef")) (aC (sC (.str "")) (aC (sC (.str "abcdefg")) (aC (sC (.str "A")) (aC (sC .none) (aC (sC (.str "a b")) aN))))))))), (.nm 22), bYes⟩ [] (sCall IW (aC (sVar 22) aN)))) (.ex (sOp2 pAdd (.ex (sLst (aC (sC (.bool true)) (aC (sC (.bool true)) aN)))) (.ex (sOp2 pRep (.ex (sLst (aC (sC (.bool false)) aN))) (.ex (sC (.int 5)))))))))
noncomputable def d0 (DR : Fn) : MS := (mSet 1 (sCall DR (aC (sVar 0) aN)))
noncomputable def mTurn : MS := (mSeq (a1 F__law_take) (mSeq (a2 F__law_box) (mSeq (a3 F__law_take) (mSeq (a4 F__law_says F_is_box F__law_bent) (mSeq (a5) (mSeq (a6 F__law_clash) (mSeq (a7 F__law_says F_clash F__law_alike F_shared) (mSeq (a8 F__law_take) (mSeq (a9) (mSeq (a10 F__law_alike F_shifted F__law_says F_holds F__law_within F_room_of F__law_units) (mSeq (a11 F_without) (mSeq (a12 F__law_clash) (mSeq (a13 F__law_units) (mSeq (a14 F__law_thing) (mSeq (a15 F__law_says F_is_thing F_dimension F__law_alike F_at F_shifted) (mSeq (a16 F__law_says F_clashes F__law_clash) (mSeq (a17 F_volume F__law_units) (mSeq (a18) (mSeq (a19 F__law_units) (mSeq (a20 F__law_says F_same_room F__law_units) (mSeq (a21 F__law_alike F_hull) (mSeq (a22 F__law_take) (mSeq (a23 F__law_bent) (mSeq (a24) (mSeq (a25) (mSeq (a26 F__law_says F_is_thing) (mSeq (a27) (a28 F_is_place))))))))))))))))))))))))))))
noncomputable def mEnd : MS := (mSeq (e1) (mSeq (e2 F_is_thing F_is_number) (e3 F_is_word)))
theorem law_is : F_law = ofBody 24 (mSeq (d0 F__law_draws) (mSeq (mFor (sRange1 (aC (sC (.int 6)) aN)) (.nm 2) mTurn) mEnd)) := rfl
end Sd.K04
set_option Elab.async false
set_option linter.all false
set_option maxRecDepth 100000
set_option maxHeartbeats 4000000
set_option autoImplicit false
namespace Sd.K04
open PySem PySem.Spec PyProof.Rows L2 C8 Sd PySem.W
section
variable {S x1 x2 x3 x4 x5 x6 x7 x8 x9 x10 x11 x12 x13 x14 x15 x16 x17 x18 x19 x20 x21 x22 x23 x24 : Option Sl}


def BoxOk (B : FnL) (n : Nat) : Prop := ∀ ds : List Int, ∃ (b : Bx) (es : List Int), b.length = n ∧ (∀ p ∈ b, near p) ∧ B (oI ds) [.int (n : Int), .int 3, .int 3] = .ok (.val (eB b)) (.own (oI es))
def SayOk (SY : Fn) : Prop := ∀ a b : Bool, SY [.bool a, .bool b] = .ok (.val (.bool (a == b)))
def mid (p : Int × Int) : Prop := -8 ≤ p.1 ∧ p.1 < p.2 ∧ p.2 ≤ 8
def midB (n : Nat) (b : Bx) : Prop := b.length = n ∧ ∀ p ∈ b, mid p
theorem near_mid {p : Int × Int} (h : near p) : mid p := by
  unfold near at h
  unfold mid
  omega
theorem run1 {T : FnL} (hT : TakeOk T) (ds : List Int) : ∃ (n : Nat) (es : List Int), (n = 2 ∨ n = 3) ∧ a1 T [S, some (.own (oI ds)), x2, x3, x4, x5, x6, x7, x8, x9, x10, x11, x12, x13, x14, x15, x16, x17, x18, x19, x20, x21, x22, x23, x24] = .nx [S, some (.own (oI es)), x2, some (.val (.int (n : Int))), x4, x5, x6, x7, x8, x9, x10, x11, x12, x13, x14, x15, x16, x17, x18, x19, x20, x21, x22, x23, x24] := by
  obtain ⟨r, es, r0, r1, e⟩ := hT ds 2 (by omega)
  refine ⟨2 + r.toNat, es, by omega, ?_⟩
  have er : (2 : Int) + r = ((2 + r.toNat : Nat) : Int) := by omega
  unfold a1
  simp [e]
  omega
theorem run2 {B : FnL} {n : Nat} (hB : BoxOk B n) (ds : List Int) : ∃ (b c : Bx) (es : List Int), (b.length = n ∧ ∀ p ∈ b, near p) ∧ (c.length = n ∧ ∀ p ∈ c, near p) ∧ a2 B [S, some (.own (oI ds)), x2, some (.val (.int (n : Int))), x4, x5, x6, x7, x8, x9, x10, x11, x12, x13, x14, x15, x16, x17, x18, x19, x20, x21, x22, x23, x24] = .nx [S, some (.own (oI es)), x2, some (.val (.int (n : Int))), some (.val (eB b)), some (.val (eB c)), x6, x7, x8, x9, x10, x11, x12, x13, x14, x15, x16, x17, x18, x19, x20, x21, x22, x23, x24] := by
  obtain ⟨b, e1, l1, n1, t1⟩ := hB ds
  obtain ⟨c, e2, l2, n2, t2⟩ := hB e1
  refine ⟨b, c, e2, ⟨l1, n1⟩, ⟨l2, n2⟩, ?_⟩
  unfold a2
  simp [t1, t2, z2]
theorem run3 {T : FnL} {n : Nat} {b c : Bx} (hT : TakeOk T) (hn : n = 2 ∨ n = 3) (hb : b.length = n ∧ ∀ p ∈ b, near p) (hc : c.length = n ∧ ∀ p ∈ c, near p) (k6 : keepV x6 = x6) (ds : List Int) : ∃ (d : Bx) (y6 : Option Sl) (es : List Int), midB n d ∧ keepV y6 = y6 ∧ a3 T [S, some (.own (oI ds)), x2, some (.val (.int (n : Int))), some (.val (eB b)), some (.val (eB c)), x6, x7, x8, x9, x10, x11, x12, x13, x14, x15, x16, x17, x18, x19, x20, x21, x22, x23, x24] = .nx [S, some (.own (oI es)), x2, some (.val (.int (n : Int))), some (.val (eB b)), some (.val (eB d)), y6, x7, x8, x9, x10, x11, x12, x13, x14, x15, x16, x17, x18, x19, x20, x21, x22, x23, x24] := by
  obtain ⟨r, e1, r0, r1, t1⟩ := hT ds 4 (by omega)
  by_cases hr : r = 0
  · subst hr
    obtain ⟨k, e2, k0, k1, t2⟩ := hT e1 n (by omega)
    obtain ⟨k, rfl⟩ := Int.eq_ofNat_of_zero_le k0
    have hk : k < n := by omega
    obtain ⟨pre, p, post, hce, hpre⟩ : ∃ pre p post, c = pre ++ p :: post ∧ pre.length = k :=
      ⟨c.take k, c[k]'(by omega), c.drop (k + 1), by rw [List.getElem_cons_drop, List.take_append_drop], by simp; omega⟩
    have hbk : k < b.length := by omega
    have h0 := ix_eB b hbk
    have nb := hb.2 _ (List.getElem_mem hbk)
    have h1 : pIx2 (eP b[k]) (.int 1) = some (.val (.int b[k].2)) := by simp [eP]
    have sl1 := sl_to pre (p :: post) k hpre.symm
    have sl2 := sl_from1 pre post p k hpre.symm
    rw [← hce] at sl1 sl2
    have lc : pre.length + 1 + post.length = n := by
      have := hc.1
      rw [hce] at this
      simp at this
      omega
    have d1 : pAdd (eB pre) (.tuple [.tuple [.int b[k].2, .int (b[k].2 + 2)]]) = some (.val (.tuple (pre.map eP ++ [.tuple [.int b[k].2, .int (b[k].2 + 2)]]))) := pAdd_tt _ _ (by simp; omega)
    have d2 : pAdd (.tuple (pre.map eP ++ [.tuple [.int b[k].2, .int (b[k].2 + 2)]])) (eB post) = some (.val (eB (pre ++ (b[k].2, b[k].2 + 2) :: post))) := by
      unfold eB
      rw [pAdd_tt _ _ (by simp; omega)]
      simp [eP]
    refine ⟨pre ++ (b[k].2, b[k].2 + 2) :: post, some (.val (.int (k : Int))), e2, ⟨by simp; omega, ?_⟩, rfl, ?_⟩
    · intro q hq
      rcases List.mem_append.mp hq with hq | hq
      · exact near_mid (hc.2 q (by rw [hce]; simp [hq]))
      · rcases List.mem_cons.mp hq with rfl | hq
        · unfold near at nb
          unfold mid
          simp only
          omega
        · exact near_mid (hc.2 q (by rw [hce]; simp [hq]))
    · unfold a3
      simp [t1, t2, sl1, sl2, h0, h1, z1, z2, d1, d2]
  · refine ⟨c, x6, e1, ⟨hc.1, fun p hp => near_mid (hc.2 p hp)⟩, k6, ?_⟩
    have hr' : ((r : Int) == 0) = false := by simp [hr]
    unfold a3
    simp [t1, hr]
theorem run4 {SY IB : Fn} {N : FnL} {b : Bx} (hS : SayOk SY) (hI : IB [eB b] = .ok (.val (.bool true))) (hN : ∀ ds : List Int, ∃ (x : D) (es : List Int), IB [x] = .ok (.val (.bool false)) ∧ N (oI ds) [eB b] = .ok (.val x) (.own (oI es))) (ds : List Int) : ∃ es : List Int, a4 SY IB N [S, some (.own (oI ds)), x2, x3, some (.val (eB b)), x5, x6, x7, x8, x9, x10, x11, x12, x13, x14, x15, x16, x17, x18, x19, x20, x21, x22, x23, x24] = .nx [S, some (.own (oI es)), x2, x3, some (.val (eB b)), x5, x6, x7, x8, x9, x10, x11, x12, x13, x14, x15, x16, x17, x18, x19, x20, x21, x22, x23, x24] := by
  obtain ⟨x, es, e1, e2⟩ := hN ds
  refine ⟨es, ?_⟩
  unfold a4
  simp [hI, hS true true, e1, e2, hS false false]
theorem run5 {n : Nat} {b c : Bx} (hn : n ≤ 1000) (hb : b.length = n) (hc : c.length = n) (k8 : keepV x8 = x8) : a5 [S, x1, x2, some (.val (.int (n : Int))), some (.val (eB b)), some (.val (eB c)), x6, x7, x8, x9, x10, x11, x12, x13, x14, x15, x16, x17, x18, x19, x20, x21, x22, x23, x24] = .nx [S, x1, x2, some (.val (.int (n : Int))), some (.val (eB b)), some (.val (eB c)), x6, some (.val (eB (sharedB b c))), x8, x9, x10, x11, x12, x13, x14, x15, x16, x17, x18, x19, x20, x21, x22, x23, x24] := by
  have h : sListComp [8] ⟨(sRange1 (aC (sVar 3) aN)), (.nm 8), bYes⟩ [] (sTup (aC (sN pMax [(.ex (sOp2 pIx2 (.ex (sOp2 pIx2 (.nm 4) (.nm 8))) (.ex (sC (.int 0))))), (.ex (sOp2 pIx2 (.ex (sOp2 pIx2 (.nm 5) (.nm 8))) (.ex (sC (.int 0)))))]) (aC (sN pMin [(.ex (sOp2 pIx2 (.ex (sOp2 pIx2 (.nm 4) (.nm 8))) (.ex (sC (.int 1))))), (.ex (sOp2 pIx2 (.ex (sOp2 pIx2 (.nm 5) (.nm 8))) (.ex (sC (.int 1)))))]) aN))) [S, x1, x2, some (.val (.int (n : Int))), some (.val (eB b)), some (.val (eB c)), x6, x7, x8, x9, x10, x11, x12, x13, x14, x15, x16, x17, x18, x19, x20, x21, x22, x23, x24] = .ok (.own (.lst ((List.range n).map fun i => eP (max b[i]!.1 c[i]!.1, min b[i]!.2 c[i]!.2)))) [S, x1, x2, some (.val (.int (n : Int))), some (.val (eB b)), some (.val (eB c)), x6, x7, x8, x9, x10, x11, x12, x13, x14, x15, x16, x17, x18, x19, x20, x21, x22, x23, x24] := by
    refine sLC_one (List.range n) eN _ ?_ ?_ ?_ ?_
    · exact sRange1_s (by simp) (by omega)
    · simp [k8]
    · intro i hi
      have hi' : i < n := List.mem_range.mp hi
      have q1 : i < b.length := by omega
      have q2 : i < c.length := by omega
      have g1 := ix_eB b q1
      have g2 := ix_eB c q2
      have f1 : b[i]! = b[i] := by simp [q1]
      have f2 : c[i]! = c[i] := by simp [q2]
      rw [f1, f2]
      simp [turnC, eN, g1, g2, eP, z2]
    · rw [List.length_range]; exact sizeLine_big (by omega)
  have e : ((List.range n).map fun i => eP (max b[i]!.1 c[i]!.1, min b[i]!.2 c[i]!.2)) = (sharedB b c).map eP := by
    apply List.ext_getElem
    · simp [sharedB]; omega
    · intro i h1 h2
      simp at h1 h2
      have q1 : i < b.length := by omega
      have q2 : i < c.length := by omega
      simp [sharedB, q1, q2]
  unfold a5
  rw [mSet_ap, sN1_ap, ph1_ex, h, e]
  simp [eB]
theorem run6 {CL : Fn} {b c : Bx} (h : CL [eB b, eB c] = .ok (.val (.bool (clashB b c)))) : a6 CL [S, x1, x2, x3, some (.val (eB b)), some (.val (eB c)), x6, x7, x8, x9, x10, x11, x12, x13, x14, x15, x16, x17, x18, x19, x20, x21, x22, x23, x24] = .nx [S, x1, x2, x3, some (.val (eB b)), some (.val (eB c)), x6, x7, x8, some (.val (.bool (clashB b c))), x10, x11, x12, x13, x14, x15, x16, x17, x18, x19, x20, x21, x22, x23, x24] := by
  unfold a6
  simp [h]
theorem run7 {SY C AL SH : Fn} {b c : Bx} (hS : SayOk SY) (h1 : C [eB b, eB c] = .ok (.val (.bool (clashB b c)))) (h2 : C [eB c, eB b] = .ok (.val (.bool (clashB b c)))) (h3 : SH [eB b, eB c] = .ok (.val (if clashB b c = true then eB (sharedB b c) else .none)))
    (h4 : AL [eB (sharedB b c), eB (sharedB b c)] = .ok (.val (.bool true))) (h5 : AL [.none, .none] = .ok (.val (.bool true))) : a7 SY C AL SH [S, x1, x2, x3, some (.val (eB b)), some (.val (eB c)), x6, some (.val (eB (sharedB b c))), x8, some (.val (.bool (clashB b c))), x10, x11, x12, x13, x14, x15, x16, x17, x18, x19, x20, x21, x22, x23, x24] = .nx [S, x1, x2, x3, some (.val (eB b)), some (.val (eB c)), x6, some (.val (eB (sharedB b c))), x8, some (.val (.bool (clashB b c))), x10, x11, x12, x13, x14, x15, x16, x17, x18, x19, x20, x21, x22, x23, x24] := by
  unfold a7
  have q := hS (clashB b c) (clashB b c)
  cases hc : clashB b c with
  | true =>
    rw [hc] at q h1 h2 h3
    simp at q h3
    simp [h1, h2, q, h3, h4]
  | false =>
    rw [hc] at q h1 h2 h3
    simp at q h3
    simp [h1, h2, q, h3, h5]
end
end Sd.K04

set_option Elab.async false
set_option linter.all false
set_option maxRecDepth 100000
set_option maxHeartbeats 4000000
set_option autoImplicit false
namespace Sd.K04
open PySem PySem.Spec PyProof.Rows L2 C8 Sd PySem.W

theorem mid_good {n : Nat} {b : Bx} (h : midB n b) : good n b ∧ coo b := by
  refine ⟨⟨fun p hp => ?_, h.1⟩, fun p hp => ?_⟩
  · have := h.2 p hp; unfold mid at this; omega
  · have := h.2 p hp; unfold mid at this; omega
theorem near_midB {n : Nat} {b : Bx} (h : b.length = n ∧ ∀ p ∈ b, near p) : midB n b := ⟨h.1, fun p hp => near_mid (h.2 p hp)⟩
theorem room_mid : ∀ {b : Bx}, (∀ p ∈ b, mid p) → 0 ≤ roomB b ∧ roomB b ≤ 16 ^ b.length
  | [], _ => by simp [roomB]
  | p :: b, h => by
    obtain ⟨h1, h2⟩ := room_mid (b := b) fun q hq => h q (by simp [hq])
    have hp := h p (by simp)
    unfold mid at hp
    have e : roomB (p :: b) = (p.2 - p.1) * roomB b := rfl
    rw [e]
    refine ⟨Int.mul_nonneg (by omega) h1, ?_⟩
    have q1 : (p.2 - p.1) * roomB b ≤ 16 * roomB b := Int.mul_le_mul_of_nonneg_right (by omega) h1
    rw [List.length_cons, Int.pow_succ]
    omega
theorem cells_mid {n : Nat} {b : Bx} (hn : n = 2 ∨ n = 3) (h : midB n b) : (cells b).length ≤ 4096 := by
  have h1 := (room_mid h.2).2
  have h2 := len_cells (mid_good h).1.1
  rw [h.1] at h1
  rcases hn with rfl | rfl
  · have : (16 : Int) ^ 2 = 256 := by decide
    omega
  · have : (16 : Int) ^ 3 = 4096 := by decide
    omega
theorem flat_mid {n : Nat} (hn : n = 2 ∨ n = 3) : ∀ {l : List Bx}, (∀ b ∈ l, midB n b) → (l.flatMap cells).length ≤ 4096 * l.length
  | [], _ => by simp
  | b :: l, h => by
    have ih := flat_mid hn (l := l) fun x hx => h x (by simp [hx])
    have := cells_mid hn (h b (by simp))
    rw [List.flatMap_cons, List.length_append, List.length_cons]
    omega
theorem sub_mid : ∀ {p a : Bx}, okB p → (∀ u, inB p u → inB a u) → (∀ q ∈ a, mid q) → ∀ q ∈ p, mid q
  | [], _, _, _, _, q, hq => by cases hq
  | x :: p, [], ho, hs, _, q, hq => (hs _ (inB_lows ho)).elim
  | x :: p, y :: a, ho, hs, ha, q, hq => by
    have hx := (okB_cons.mp ho).1
    have hl := inB_lows (okB_cons.mp ho).2
    have hy := ha y (by simp)
    have m : ∀ i u, x.1 ≤ i → i < x.2 → inB p u → (y.1 ≤ i ∧ i < y.2) ∧ inB a u := fun i u h1 h2 hu => hs (i :: u) ⟨⟨h1, h2⟩, hu⟩
    rcases List.mem_cons.mp hq with rfl | hq
    · have h1 := (m q.1 _ (by omega) (by omega) hl).1
      have h2 := (m (q.2 - 1) _ (by omega) (by omega) hl).1
      unfold mid at hy ⊢
      omega
    · exact sub_mid (okB_cons.mp ho).2 (fun u hu => (m x.1 u (by omega) (by omega) hu).2) (fun q hq => ha q (by simp [hq])) q hq
theorem woB_mid {n : Nat} {a b : Bx} (ha : midB n a) (hb : good n b) : ∀ p ∈ woB a b, midB n p := fun p hp => by
  have g := woB_good (mid_good ha).1 hb p hp
  exact ⟨g.2, sub_mid g.1 (fun u hu => ((woB_in (mid_good ha).1 hb u).mp ⟨p, hp, hu⟩).1) ha.2⟩
theorem woB_clash {n : Nat} {a b : Bx} (ha : good n a) (hb : good n b) : ∀ p ∈ woB a b, clashB p b = false := fun p hp => by
  have g := woB_good ha hb p hp
  cases h : clashB p b with
  | false => rfl
  | true =>
    obtain ⟨u, h1, h2⟩ := (clash_cell g.1 hb.1 (g.2.trans hb.2.symm)).mp h
    exact absurd h2 ((woB_in ha hb u).mp ⟨p, hp, h1⟩).2
theorem woB_few {n : Nat} {a b : Bx} (hn : n = 2 ∨ n = 3) (ha : midB n a) (hb : good n b) : (woB a b).length ≤ 4096 ∧ ((woB a b).flatMap cells).length ≤ 4096 := by
  have hg := (mid_good ha).1
  have hc := cells_mid hn ha
  constructor
  · refine Nat.le_trans (few (n := n) (woB_good hg hb) (woB_apart hg hb) fun p hp u hu => (mem_cells a u).mpr ((woB_in hg hb u).mp ⟨p, hp, hu⟩).1) hc
  · refine Nat.le_trans (List.Nodup.length_le_of_subset (nodup_flat (woB_apart hg hb)) (l₂ := cells a) ?_) hc
    intro u hu
    obtain ⟨p, hp, hu⟩ := List.mem_flatMap.mp hu
    exact (mem_cells a u).mpr ((woB_in hg hb u).mp ⟨p, hp, (mem_cells p u).mp hu⟩).1
end Sd.K04
set_option Elab.async false
set_option linter.all false
set_option maxRecDepth 100000
set_option maxHeartbeats 4000000
set_option autoImplicit false
namespace Sd.K04
open PySem PySem.Spec PyProof.Rows L2 C8 Sd PySem.W
section
variable {S x1 x2 x3 x4 x5 x6 x7 x8 x9 x10 x11 x12 x13 x14 x15 x16 x17 x18 x19 x20 x21 x22 x23 x24 : Option Sl}


theorem nilF {α : Type} (xs : List α) : (xs.flatMap fun _ => ([] : List D)).length ≤ sizeLine := by
  have : (xs.flatMap fun _ => ([] : List D)) = [] := by
    induction xs with
    | nil => rfl
    | cons x xs ih => rw [List.flatMap_cons, ih]; rfl
  rw [this]
  exact Nat.zero_le _
theorem place_comp {T : FnL} (hT : TakeOk T) : ∀ (is : List Nat) (ds : List Int), ∃ (vs es : List Int), vs.length = is.length ∧ (∀ v ∈ vs, -4 ≤ v ∧ v ≤ 4) ∧
    compItems (.nm 6) bYes (emit1 (sOp2 pSub (.ex (sCallL T 1 (aC (sC (.int 9)) aN))) (.ex (sC (.int 4))))) (is.map eN) [S, some (.own (oI ds)), x2, x3, x4, x5, none, x7, x8, x9, x10, x11, x12, x13, x14, x15, x16, x17, x18, x19, x20, x21, x22, x23, x24] = .ok (vs.map eI) [S, some (.own (oI es)), x2, x3, x4, x5, none, x7, x8, x9, x10, x11, x12, x13, x14, x15, x16, x17, x18, x19, x20, x21, x22, x23, x24]
  | [], ds => ⟨[], ds, rfl, by simp, rfl⟩
  | i :: is, ds => by
    obtain ⟨r, es, r0, r1, e⟩ := hT ds 9 (by omega)
    obtain ⟨vs, fs, l2, nr2, e2⟩ := place_comp hT is es
    refine ⟨(r - 4) :: vs, fs, by simp [l2], ?_, ?_⟩
    · intro v hv
      rcases List.mem_cons.mp hv with rfl | hv
      · omega
      · exact nr2 v hv
    · have tn : turnC (.nm 6) bYes (emit1 (sOp2 pSub (.ex (sCallL T 1 (aC (sC (.int 9)) aN))) (.ex (sC (.int 4))))) (eN i) [S, some (.own (oI ds)), x2, x3, x4, x5, none, x7, x8, x9, x10, x11, x12, x13, x14, x15, x16, x17, x18, x19, x20, x21, x22, x23, x24] = .ok [eI (r - 4)] [S, some (.own (oI es)), x2, x3, x4, x5, none, x7, x8, x9, x10, x11, x12, x13, x14, x15, x16, x17, x18, x19, x20, x21, x22, x23, x24] := by
        simp [turnC, e, eI]
      rw [List.map_cons, compItems_step, tn, Res.bind_ok, e2, Res.bind_ok]
      rfl
theorem run8 {T : FnL} {n : Nat} (hT : TakeOk T) (hn : n ≤ 1000) (k6 : keepV x6 = x6) (ds : List Int) : ∃ (v es : List Int), v.length = n ∧ (∀ x ∈ v, -4 ≤ x ∧ x ≤ 4) ∧ a8 T [S, some (.own (oI ds)), x2, some (.val (.int (n : Int))), x4, x5, x6, x7, x8, x9, x10, x11, x12, x13, x14, x15, x16, x17, x18, x19, x20, x21, x22, x23, x24] = .nx [S, some (.own (oI es)), x2, some (.val (.int (n : Int))), x4, x5, x6, x7, x8, x9, some (.val (eV v)), x11, x12, x13, x14, x15, x16, x17, x18, x19, x20, x21, x22, x23, x24] := by
  obtain ⟨v, es, l, r, e⟩ := place_comp (S := S) (x2 := x2) (x3 := some (.val (.int (n : Int)))) (x4 := x4) (x5 := x5) (x7 := x7) (x8 := x8) (x9 := x9) (x10 := x10) (x11 := x11) (x12 := x12) (x13 := x13) (x14 := x14) (x15 := x15) (x16 := x16) (x17 := x17) (x18 := x18) (x19 := x19) (x20 := x20) (x21 := x21) (x22 := x22) (x23 := x23) (x24 := x24) hT (List.range n) ds
  rw [List.length_range] at l
  refine ⟨v, es, l, r, ?_⟩
  have h1 : ∀ x1 : Option Sl, (sRange1 (aC (sVar 3) aN)) [S, x1, x2, some (.val (.int (n : Int))), x4, x5, x6, x7, x8, x9, x10, x11, x12, x13, x14, x15, x16, x17, x18, x19, x20, x21, x22, x23, x24] = .ok ((List.range n).map eN) [S, x1, x2, some (.val (.int (n : Int))), x4, x5, x6, x7, x8, x9, x10, x11, x12, x13, x14, x15, x16, x17, x18, x19, x20, x21, x22, x23, x24] := fun x1 => sRange1_s (by simp) (by omega)
  have h2 : sListComp [6] ⟨(sRange1 (aC (sVar 3) aN)), (.nm 6), bYes⟩ [] (sOp2 pSub (.ex (sCallL T 1 (aC (sC (.int 9)) aN))) (.ex (sC (.int 4)))) [S, some (.own (oI ds)), x2, some (.val (.int (n : Int))), x4, x5, x6, x7, x8, x9, x10, x11, x12, x13, x14, x15, x16, x17, x18, x19, x20, x21, x22, x23, x24] = .ok (.own (.lst (v.map eI))) (restoreE [S, some (.own (oI ds)), x2, some (.val (.int (n : Int))), x4, x5, x6, x7, x8, x9, x10, x11, x12, x13, x14, x15, x16, x17, x18, x19, x20, x21, x22, x23, x24] [S, some (.own (oI es)), x2, some (.val (.int (n : Int))), x4, x5, none, x7, x8, x9, x10, x11, x12, x13, x14, x15, x16, x17, x18, x19, x20, x21, x22, x23, x24] [6]) := by
    refine sListComp_run (ρ1 := [S, some (.own (oI ds)), x2, some (.val (.int (n : Int))), x4, x5, x6, x7, x8, x9, x10, x11, x12, x13, x14, x15, x16, x17, x18, x19, x20, x21, x22, x23, x24]) (ρ2 := [S, some (.own (oI es)), x2, some (.val (.int (n : Int))), x4, x5, none, x7, x8, x9, x10, x11, x12, x13, x14, x15, x16, x17, x18, x19, x20, x21, x22, x23, x24]) (items := (List.range n).map eN) (xs := v.map eI) ?_ ?_ ?_
    · dsimp only
      exact h1 _
    · rw [compGo_nil]
      simp only [wipeE_cons, wipeE_nil, List.set]
      exact e
    · rw [List.length_map]
      exact sizeLine_big (by omega)
  unfold a8
  rw [mSet_ap, sN1_ap, ph1_ex, h2]
  simp [eV, k6]
theorem run9 {n : Nat} {b : Bx} {v : List Int} (hn : n ≤ 1000) (hb : b.length = n) (hv : v.length = n) (k8 : keepV x8 = x8) : a9 [S, x1, x2, some (.val (.int (n : Int))), some (.val (eB b)), x5, x6, x7, x8, x9, some (.val (eV v)), x11, x12, x13, x14, x15, x16, x17, x18, x19, x20, x21, x22, x23, x24] = .nx [S, x1, x2, some (.val (.int (n : Int))), some (.val (eB b)), x5, x6, x7, x8, x9, some (.val (eV v)), some (.val (eB (shiftedB b v))), x12, x13, x14, x15, x16, x17, x18, x19, x20, x21, x22, x23, x24] := by
  have h : sListComp [8] ⟨(sRange1 (aC (sVar 3) aN)), (.nm 8), bYes⟩ [] (sTup (aC (sOp2 pAdd (.ex (sOp2 pIx2 (.ex (sOp2 pIx2 (.nm 4) (.nm 8))) (.ex (sC (.int 0))))) (.ex (sOp2 pIx2 (.nm 10) (.nm 8)))) (aC (sOp2 pAdd (.ex (sOp2 pIx2 (.ex (sOp2 pIx2 (.nm 4) (.nm 8))) (.ex (sC (.int 1))))) (.ex (sOp2 pIx2 (.nm 10) (.nm 8)))) aN))) [S, x1, x2, some (.val (.int (n : Int))), some (.val (eB b)), x5, x6, x7, x8, x9, some (.val (eV v)), x11, x12, x13, x14, x15, x16, x17, x18, x19, x20, x21, x22, x23, x24] = .ok (.own (.lst ((List.range n).map fun i => eP (b[i]!.1 + v[i]!, b[i]!.2 + v[i]!)))) [S, x1, x2, some (.val (.int (n : Int))), some (.val (eB b)), x5, x6, x7, x8, x9, some (.val (eV v)), x11, x12, x13, x14, x15, x16, x17, x18, x19, x20, x21, x22, x23, x24] := by
    refine sLC_one (List.range n) eN _ ?_ ?_ ?_ ?_
    · exact sRange1_s (by simp) (by omega)
    · simp [k8]
    · intro i hi
      have hi' : i < n := List.mem_range.mp hi
      have q1 : i < b.length := by omega
      have q2 : i < v.length := by omega
      have g1 := ix_eB b q1
      have g2 := ix_eV v q2
      have f1 : b[i]! = b[i] := by simp [q1]
      have f2 : v[i]! = v[i] := by simp [q2]
      rw [f1, f2]
      simp [turnC, eN, g1, g2, eP, z2]
    · rw [List.length_range]; exact sizeLine_big (by omega)
  have e : ((List.range n).map fun i => eP (b[i]!.1 + v[i]!, b[i]!.2 + v[i]!)) = (shiftedB b v).map eP := by
    apply List.ext_getElem
    · simp [shiftedB]; omega
    · intro i h1 h2
      simp at h1 h2
      have q1 : i < b.length := by omega
      have q2 : i < v.length := by omega
      simp [shiftedB, q1, q2]
  unfold a9
  rw [mSet_ap, sN1_ap, ph1_ex, h, e]
  simp [eB]
def UnitsOk (UN : Fn) (n : Nat) : Prop := ∀ (d : D) (bs : List Bx), iterD d = some (bs.map eB) → (∀ b ∈ bs, midB n b) → (bs.flatMap cells).length ≤ 1000000 → ∃ U : List Un, unitsOf bs U ∧ U.length ≤ 1000000 ∧ UN [d] = .ok (.own (.dct (eD U)))
theorem lenU (U : List Un) : pLen2 [.dict (eD U)] = some (.val (.int U.length)) := by
  show (if allTup (eD U) = true then vI ((eD U).length) else none) = _
  rw [if_pos (allTup_eD U)]
  simp [eD, vI]
theorem lstU (U : List Un) : pListC2 [.dict (eD U)] = some (.own (.lst (U.map eU))) := by
  show (if allTup (eD U) = true then some (Sl.own (.lst ((eD U).map (·.1)))) else none) = _
  rw [if_pos (allTup_eD U)]
  simp [eD, Function.comp_def]
theorem sortOk_units (U : List Un) (n : Nat) (hn : 0 < n) (h : ∀ u ∈ U, u.length = n) (hl : U.length ≤ 1000000) : SortOk (U.map eU) where
  al := by
    intro d hd e he
    obtain ⟨a, _, rfl⟩ := List.mem_map.mp hd
    obtain ⟨b, _, rfl⟩ := List.mem_map.mp he
    exact alike_eU a b
  so := .inl fun d hd => by
    obtain ⟨a, ha, rfl⟩ := List.mem_map.mp hd
    have := h a ha
    cases a with
    | nil => simp at this; omega
    | cons p a => exact ⟨eI p, a.map eI, rfl⟩
  pl := plainAll_map _ plain_eU _
  dp := fun d hd => by
    obtain ⟨a, _, rfl⟩ := List.mem_map.mp hd
    have := depth_eU a
    omega
  ln := by rw [List.length_map]; exact sizeLine_big hl
theorem unitsOf_len {n : Nat} {bs : List Bx} {U : List Un} (h : ∀ b ∈ bs, b.length = n) (hu : unitsOf bs U) : ∀ u ∈ U, u.length = n := fun u q => by
  obtain ⟨b, hb, hi⟩ := (hu.2 u).mp q
  rw [inB_len hi, h b hb]
theorem psU {n : Nat} (U : List Un) (hn : 0 < n) (h : ∀ u ∈ U, u.length = n) (hl : U.length ≤ 1000000) : pSorted [.list (U.map eU)] = some (.own (.lst (sortD (U.map eU)))) := by
  unfold pSorted
  simp only
  rw [if_pos (sortOk_units U n hn h hl)]
theorem eU_inj {a b : Un} (h : eU a = eU b) : a = b := by
  have := eqv_eU a b
  rw [h, eqv_eU] at this
  simpa using this.symm
def sameB (U V : List Un) : Bool := PyData.eqv (.list (sortD (U.map eU))) (.list (sortD (V.map eU)))
theorem okEq_sU (U : List Un) : okEq (.list (sortD (U.map eU))) = true := by
  have hm : ∀ d ∈ sortD (U.map eU), ∃ u, d = eU u := fun d hd => by
    obtain ⟨u, _, rfl⟩ := List.mem_map.mp (sort_mem.mp hd)
    exact ⟨u, rfl⟩
  have h1 : (PyData.list (sortD (U.map eU))).plain = true := by
    rw [plain_list, plainAll_iff]
    intro d hd
    obtain ⟨u, rfl⟩ := hm d hd
    exact plain_eU u
  have h2 : (PyData.list (sortD (U.map eU))).depth ≤ 60 := by
    have := depth_mem (n := 2) (xs := sortD (U.map eU)) fun d hd => by
      obtain ⟨u, rfl⟩ := hm d hd
      exact depth_eU u
    simp only [PyData.depth]
    omega
  unfold okEq
  rw [h1, decide_eq_true h2]
  rfl
theorem eqU (U V : List Un) : pEq (.list (sortD (U.map eU))) (.list (sortD (V.map eU))) = some (.val (.bool (sameB U V))) := by
  unfold pEq
  rw [okEq_sU, okEq_sU]
  rfl
theorem neU (U V : List Un) : pNe (.list (sortD (U.map eU))) (.list (sortD (V.map eU))) = some (.val (.bool (!sameB U V))) := by
  unfold pNe
  rw [okEq_sU, okEq_sU]
  rfl
theorem nodupU {U : List Un} (h : U.Nodup) : (U.map eU).Nodup := by
  unfold List.Nodup
  rw [List.pairwise_map]
  exact h.imp fun {a b} h e => h (eU_inj e)
theorem sameB_iff {U V : List Un} (hU : U.Nodup) (hV : V.Nodup) : sameB U V = true ↔ ∀ u, u ∈ U ↔ u ∈ V := by
  have hm : ∀ (U : List Un), ∀ d ∈ U.map eU, ∃ u, d = eU u := fun U d hd => by
    obtain ⟨u, _, rfl⟩ := List.mem_map.mp hd
    exact ⟨u, rfl⟩
  have mm : ∀ (W : List Un) (u : Un), eU u ∈ W.map eU ↔ u ∈ W := fun W u => by
    constructor
    · intro h
      obtain ⟨w, hw, e⟩ := List.mem_map.mp h
      rw [← eU_inj e]; exact hw
    · exact fun h => List.mem_map.mpr ⟨u, h, rfl⟩
  unfold sameB
  rw [ordU.list (fun d hd => hm U d (sort_mem.mp hd)) (fun d hd => hm V d (sort_mem.mp hd)), ordU.same (hm U) (hm V) (nodupU hU) (nodupU hV)]
  constructor
  · intro h u
    rw [← mm U u, ← mm V u]
    exact h _
  · intro h d
    constructor
    · intro hd
      obtain ⟨u, rfl⟩ := hm U d hd
      exact (mm V u).mpr ((h u).mp ((mm U u).mp hd))
    · intro hd
      obtain ⟨u, rfl⟩ := hm V d hd
      exact (mm U u).mpr ((h u).mpr ((mm V u).mp hd))
theorem notinU (u : Un) (V : List Un) : pNotIn2 (eU u) (.dict (eD V)) = some (.val (.bool (!decide (u ∈ V)))) := by
  obtain ⟨k, hk⟩ := Option.isSome_iff_exists.mp (tup_eU u)
  show (((tupKey (eU u)).bind fun _ => if allTup (eD V) = true then some (lookD (eD V) (eU u)).isSome else none).bind fun b => vB (!b)) = _
  rw [hk, Option.bind_some, if_pos (allTup_eD V), look_eD]
  rfl
theorem unitsOf_room {n : Nat} {b : Bx} {U : List Un} (hb : good n b) (h : unitsOf [b] U) : (U.length : Int) = roomB b := by
  have h2 : unitsOf [b] (cells b) := ⟨nodup_cells b, fun u => by simp [mem_cells]⟩
  rw [units_len h h2, len_cells hb.1]
theorem run10 {AL SF SY HO WI RO UN : Fn} {n : Nat} {b : Bx} {v : List Int} (hS : SayOk SY) (hn : n = 2 ∨ n = 3) (hb : midB n b) (h1 : SF [eB b, eV v] = .ok (.val (eB (shiftedB b v)))) (h2 : AL [eB (shiftedB b v), eB (shiftedB b v)] = .ok (.val (.bool true)))
    (h3 : HO [eB b, eV v] = .ok (.val (.bool (holdsB b v)))) (h4 : WI [eB b, eV v] = .ok (.val (.bool (holdsB b v)))) (h5 : RO [eB b] = .ok (.val (.int (roomB b)))) (hU : UnitsOk UN n) :
    a10 AL SF SY HO WI RO UN [S, x1, x2, x3, some (.val (eB b)), x5, x6, x7, x8, x9, some (.val (eV v)), some (.val (eB (shiftedB b v))), x12, x13, x14, x15, x16, x17, x18, x19, x20, x21, x22, x23, x24] = .nx [S, x1, x2, x3, some (.val (eB b)), x5, x6, x7, x8, x9, some (.val (eV v)), some (.val (eB (shiftedB b v))), x12, x13, x14, x15, x16, x17, x18, x19, x20, x21, x22, x23, x24] := by
  obtain ⟨U, u1, u2, u3⟩ := hU (.list [eB b]) [b] rfl (by simpa using hb) (by have := cells_mid hn hb; simp; omega)
  have e := unitsOf_room (mid_good hb).1 u1
  unfold a10
  simp [h1, h2, h3, h4, h5, hS (holdsB b v) (holdsB b v), z1, u3, lenU, e]
theorem run11 {WO : Fn} {b c : Bx} (h : WO [eB b, eB c] = .ok (.own (.lst ((woB b c).map eB)))) : a11 WO [S, x1, x2, x3, some (.val (eB b)), some (.val (eB c)), x6, x7, x8, x9, x10, x11, x12, x13, x14, x15, x16, x17, x18, x19, x20, x21, x22, x23, x24] = .nx [S, x1, x2, x3, some (.val (eB b)), some (.val (eB c)), x6, x7, x8, x9, x10, x11, some (.own (.lst ((woB b c).map eB))), x13, x14, x15, x16, x17, x18, x19, x20, x21, x22, x23, x24] := by
  unfold a11
  simp [h]
theorem run12 {CL : Fn} {n : Nat} {b c : Bx} (hn : n = 2 ∨ n = 3) (hb : midB n b) (hc : midB n c) (hC : ∀ p q : Bx, p.length = n → q.length = n → CL [eB p, eB q] = .ok (.val (.bool (clashB p q)))) (k8 : keepV x8 = x8) :
    a12 CL [S, x1, x2, x3, some (.val (eB b)), some (.val (eB c)), x6, x7, x8, x9, x10, x11, some (.own (.lst ((woB b c).map eB))), none, none, x15, x16, x17, x18, x19, x20, x21, x22, x23, x24] = .nx [S, x1, x2, x3, some (.val (eB b)), some (.val (eB c)), x6, x7, x8, x9, x10, x11, some (.val (.list ((woB b c).map eB))), none, none, x15, x16, x17, x18, x19, x20, x21, x22, x23, x24] := by
  have gb := (mid_good hb).1
  have gc := (mid_good hc).1
  have few := (woB_few hn hb gc).1
  have h1 : (sListComp [13] ⟨(sIt (sVar 12)), (.nm 13), (bTru (.ex (sCall CL (aC (sVar 13) (aC (sVar 5) aN)))))⟩ [] (sVar 13)) [S, x1, x2, x3, some (.val (eB b)), some (.val (eB c)), x6, x7, x8, x9, x10, x11, some (.own (.lst ((woB b c).map eB))), none, none, x15, x16, x17, x18, x19, x20, x21, x22, x23, x24] = .ok (.own (.lst [])) [S, x1, x2, x3, some (.val (eB b)), some (.val (eB c)), x6, x7, x8, x9, x10, x11, some (.val (.list ((woB b c).map eB))), none, none, x15, x16, x17, x18, x19, x20, x21, x22, x23, x24] := by
    rw [sLC_go [S, x1, x2, x3, some (.val (eB b)), some (.val (eB c)), x6, x7, x8, x9, x10, x11, some (.val (.list ((woB b c).map eB))), none, none, x15, x16, x17, x18, x19, x20, x21, x22, x23, x24] (woB b c) eB (fun _ => [])]
    · simp
    · simp
    · simp
    · intro p hp
      have := hC p c (woB_good gb gc p hp).2 gc.2
      rw [woB_clash gb gc p hp] at this
      simp [turnC, this]
    · exact nilF _
  have h2 : (sListComp [8] ⟨(sRange1 (aC (sN pLen2 [(.nm 12)]) aN)), (.nm 8), (bVal (sOp2 pNe (.ex (sListComp [14] ⟨(sRange1 (aC (sVar 8) aN)), (.nm 14), (bTru (.ex (sCall CL (aC (sOp2 pIx2 (.nm 12) (.nm 14)) (aC (sOp2 pIx2 (.nm 12) (.nm 8)) aN)))))⟩ [] (sVar 14))) (.ex (sLst aN))))⟩ [] (sVar 8)) [S, x1, x2, x3, some (.val (eB b)), some (.val (eB c)), x6, x7, x8, x9, x10, x11, some (.val (.list ((woB b c).map eB))), none, none, x15, x16, x17, x18, x19, x20, x21, x22, x23, x24] = .ok (.own (.lst [])) [S, x1, x2, x3, some (.val (eB b)), some (.val (eB c)), x6, x7, x8, x9, x10, x11, some (.val (.list ((woB b c).map eB))), none, none, x15, x16, x17, x18, x19, x20, x21, x22, x23, x24] := by
    rw [sLC_go [S, x1, x2, x3, some (.val (eB b)), some (.val (eB c)), x6, x7, x8, x9, x10, x11, some (.val (.list ((woB b c).map eB))), none, none, x15, x16, x17, x18, x19, x20, x21, x22, x23, x24] (List.range (woB b c).length) eN (fun _ => [])]
    · simp
    · exact sRange1_s (by simp) (by omega)
    · simp [k8]
    · intro k hk
      have hk' : k < (woB b c).length := List.mem_range.mp hk
      have hi : ∀ ρ8 : Ev, ρ8 = [S, x1, x2, x3, some (.val (eB b)), some (.val (eB c)), x6, x7, some (.val (eN k)), x9, x10, x11, some (.val (.list ((woB b c).map eB))), none, none, x15, x16, x17, x18, x19, x20, x21, x22, x23, x24] → (sListComp [14] ⟨(sRange1 (aC (sVar 8) aN)), (.nm 14), (bTru (.ex (sCall CL (aC (sOp2 pIx2 (.nm 12) (.nm 14)) (aC (sOp2 pIx2 (.nm 12) (.nm 8)) aN)))))⟩ [] (sVar 14)) ρ8 = .ok (.own (.lst [])) ρ8 := by
        intro ρ8 e8
        rw [e8, sLC_go [S, x1, x2, x3, some (.val (eB b)), some (.val (eB c)), x6, x7, some (.val (eN k)), x9, x10, x11, some (.val (.list ((woB b c).map eB))), none, none, x15, x16, x17, x18, x19, x20, x21, x22, x23, x24] (List.range k) eN (fun _ => [])]
        · simp
        · exact sRange1_s (by simp [eN]) (by omega)
        · simp
        · intro j hj
          have hj' : j < k := List.mem_range.mp hj
          have hj2 : j < (woB b c).length := by omega
          have i1 : pIx2 (.list ((woB b c).map eB)) (.int (j : Int)) = some (.val (eB (woB b c)[j])) := by rw [pIx2_l, ix_map eB _ hj2]; rfl
          have i2 : pIx2 (.list ((woB b c).map eB)) (.int (k : Int)) = some (.val (eB (woB b c)[k])) := by rw [pIx2_l, ix_map eB _ hk']; rfl
          have g1 := woB_good gb gc _ (List.getElem_mem hj2)
          have g2 := woB_good gb gc _ (List.getElem_mem hk')
          have ap := (List.pairwise_iff_getElem.mp (woB_apart gb gc)) j k hj2 hk' hj'
          have cf : clashB (woB b c)[j] (woB b c)[k] = false := by
            cases h : clashB (woB b c)[j] (woB b c)[k] with
            | false => rfl
            | true =>
              obtain ⟨u, q1, q2⟩ := (clash_cell g1.1 g2.1 (g1.2.trans g2.2.symm)).mp h
              exact (ap u q1 q2).elim
          have := hC _ _ g1.2 g2.2
          rw [cf] at this
          simp only [turnC, assignT_nm, wipeE_cons, wipeE_nil, List.set, bTru_ap, ph1_ex, ph2_ex, sCall_ap, aC_ap, aN_ap, sOp2_ap, ph1_nm, ph2_nm, List.getElem?_cons_zero, List.getElem?_cons_succ, Res.bind_ok, frz_val, Option.bind_some, eN, i1, i2, Res.ofO_some, this, truD_bool, Bool.false_eq_true, if_false, slots_nm]
        · exact nilF _
      simp only [turnC, assignT_nm, wipeE_cons, wipeE_nil, List.set, bVal_ap]
      rw [sNeNil (hi _ rfl) (by simp [okEq, PyData.depth, PyData.depthAll])]
      simp
    · exact nilF _
  unfold a12
  rw [mIf_ap, bOr_ap, bVal_ap, sNeNil h1 (by simp [okEq, PyData.depth, PyData.depthAll])]
  simp only [List.isEmpty_nil, Bool.not_true, Res.bind_ok, boolD_b, Bool.false_eq_true, if_false]
  rw [bVal_ap, sNeNil h2 (by simp [okEq, PyData.depth, PyData.depthAll])]
  simp
theorem run13 {UN : Fn} {n : Nat} {b c : Bx} (hn : n = 2 ∨ n = 3) (hb : midB n b) (hc : midB n c) (hU : UnitsOk UN n) : a13 UN [S, x1, x2, x3, some (.val (eB b)), some (.val (eB c)), x6, x7, x8, x9, x10, x11, some (.val (.list ((woB b c).map eB))), x13, x14, none, x16, x17, x18, x19, x20, x21, x22, x23, x24] = .nx [S, x1, x2, x3, some (.val (eB b)), some (.val (eB c)), x6, x7, x8, x9, x10, x11, some (.val (.list ((woB b c).map eB))), x13, x14, none, x16, x17, x18, x19, x20, x21, x22, x23, x24] := by
  have gb := (mid_good hb).1
  have gc := (mid_good hc).1
  have n0 : 0 < n := by omega
  obtain ⟨U, u1, u2, u3⟩ := hU (.list ((woB b c).map eB)) (woB b c) rfl (woB_mid hb gc) (by have := (woB_few hn hb gc).2; omega)
  obtain ⟨V, v1, v2, v3⟩ := hU (.list [eB b]) [b] rfl (by simpa using hb) (by have := cells_mid hn hb; simp; omega)
  obtain ⟨W, w1, w2, w3⟩ := hU (.list [eB c]) [c] rfl (by simpa using hc) (by have := cells_mid hn hc; simp; omega)
  have lU := unitsOf_len (fun p hp => (woB_good gb gc p hp).2) u1
  have lV := unitsOf_len (n := n) (by simpa using hb.1) v1
  have h1 : (sListComp [15] ⟨(sItK (sCall UN (aC (sLst (aC (sVar 4) aN)) aN))), (.nm 15), (bVal (sOp2 pNotIn2 (.nm 15) (.ex (sCall UN (aC (sLst (aC (sVar 5) aN)) aN)))))⟩ [] (sVar 15)) [S, x1, x2, x3, some (.val (eB b)), some (.val (eB c)), x6, x7, x8, x9, x10, x11, some (.val (.list ((woB b c).map eB))), x13, x14, none, x16, x17, x18, x19, x20, x21, x22, x23, x24] = .ok (.own (.lst ((V.filter fun u => !decide (u ∈ W)).map eU))) [S, x1, x2, x3, some (.val (eB b)), some (.val (eB c)), x6, x7, x8, x9, x10, x11, some (.val (.list ((woB b c).map eB))), x13, x14, none, x16, x17, x18, x19, x20, x21, x22, x23, x24] := by
    refine sLC_if V eU _ eU ?_ ?_ ?_ ?_
    · show Res.bind _ _ = _
      simp [z1, v3, allTup_eD]
      simp [eD, Function.comp_def]
    · simp
    · intro u hu
      by_cases hw : u ∈ W <;> simp [turnC, z1, w3, notinU, hw]
    · exact sizeLine_big v2
  have s1 := psU U n0 lU u2
  have s2 := psU (V.filter fun u => !decide (u ∈ W)) n0 (fun u hu => lV u (List.mem_filter.mp hu).1) (Nat.le_trans (List.length_filter_le _ _) v2)
  have sm : sameB U (V.filter fun u => !decide (u ∈ W)) = true := by
    refine (sameB_iff u1.1 (v1.1.filter _)).mpr fun u => ?_
    rw [u1.2 u, woB_in gb gc u, List.mem_filter, v1.2 u]
    have := w1.2 u
    simp at this ⊢
    rw [this]
    exact fun _ => Iff.rfl
  unfold a13
  rw [mIf_ap, bVal_ap, sOp2_ap]
  simp only [ph1_ex, sN1_ap, h1, Res.bind_ok, ph2_ex, Option.bind_some, frz_lst, s2, Res.ofO_some]
  simp [u3, lstU, s1, h1, s2, neU, sm]
end
end Sd.K04

set_option Elab.async false
set_option linter.all false
set_option maxRecDepth 100000
set_option maxHeartbeats 4000000
set_option autoImplicit false
namespace Sd.K04
open PySem PySem.Spec PyProof.Rows L2 C8 Sd PySem.W
section
variable {S x1 x2 x3 x4 x5 x6 x7 x8 x9 x10 x11 x12 x13 x14 x15 x16 x17 x18 x19 x20 x21 x22 x23 x24 : Option Sl}


def ThingOk (H : FnL) (n : Nat) : Prop := ∀ (c : Nat), 0 < c → c ≤ 1000 → ∀ ds : List Int, ∃ (th : List Bx) (es : List Int), 0 < th.length ∧ th.length ≤ c ∧ (∀ b ∈ th, b.length = n ∧ ∀ p ∈ b, near p) ∧ (th.Pairwise fun a b => ltB a b = true) ∧ H (oI ds) [.int (n : Int), .int (c : Int), .int 3, .int 3] = .ok (.val (eT th)) (.own (oI es))
theorem run14 {H : FnL} {n : Nat} (hH : ThingOk H n) (ds : List Int) : ∃ (th mo : List Bx) (es : List Int), (0 < th.length ∧ th.length ≤ 4 ∧ (∀ b ∈ th, b.length = n ∧ ∀ p ∈ b, near p) ∧ (th.Pairwise fun a b => ltB a b = true)) ∧ (0 < mo.length ∧ mo.length ≤ 3 ∧ (∀ b ∈ mo, b.length = n ∧ ∀ p ∈ b, near p) ∧ (mo.Pairwise fun a b => ltB a b = true)) ∧
    a14 H [S, some (.own (oI ds)), x2, some (.val (.int (n : Int))), x4, x5, x6, x7, x8, x9, x10, x11, x12, x13, x14, x15, x16, x17, x18, x19, x20, x21, x22, x23, x24] = .nx [S, some (.own (oI es)), x2, some (.val (.int (n : Int))), x4, x5, x6, x7, x8, x9, x10, x11, x12, x13, x14, x15, some (.val (eT th)), some (.val (eT mo)), x18, x19, x20, x21, x22, x23, x24] := by
  obtain ⟨th, e1, q1, q2, q3, q4, t1⟩ := hH 4 (by omega) (by omega) ds
  obtain ⟨mo, e2, r1, r2, r3, r4, t2⟩ := hH 3 (by omega) (by omega) e1
  refine ⟨th, mo, e2, ⟨q1, q2, q3, q4⟩, ⟨r1, r2, r3, r4⟩, ?_⟩
  have t1' : H (oI ds) [.int (n : Int), .int 4, .int 3, .int 3] = .ok (.val (eT th)) (.own (oI e1)) := t1
  have t2' : H (oI e1) [.int (n : Int), .int 3, .int 3, .int 3] = .ok (.val (eT mo)) (.own (oI e2)) := t2
  unfold a14
  simp [t1', t2', z2]
theorem it_eT (th : List Bx) : iterD (eT th) = some (th.map eB) := rfl
theorem run15 {SY IT DM AL AT SF : Fn} {n : Nat} {th : List Bx} {v : List Int} (hS : SayOk SY) (hl : th.length ≤ 1000) (h1 : IT [eT th] = .ok (.val (.bool true))) (h2 : DM [eT th] = .ok (.val (.int (n : Int)))) (h3 : AT [eT th, eV v] = .ok (.val (eT (th.map fun b => shiftedB b v))))
    (h4 : ∀ b ∈ th, SF [eB b, eV v] = .ok (.val (eB (shiftedB b v)))) (h5 : AL [eT (th.map fun b => shiftedB b v), eT (th.map fun b => shiftedB b v)] = .ok (.val (.bool true))) : a15 SY IT DM AL AT SF [S, x1, x2, some (.val (.int (n : Int))), x4, x5, x6, x7, x8, x9, some (.val (eV v)), x11, x12, none, x14, x15, some (.val (eT th)), x17, x18, x19, x20, x21, x22, x23, x24] = .nx [S, x1, x2, some (.val (.int (n : Int))), x4, x5, x6, x7, x8, x9, some (.val (eV v)), x11, x12, none, x14, x15, some (.val (eT th)), x17, x18, x19, x20, x21, x22, x23, x24] := by
  have h : (sListComp [13] ⟨(sIt (sVar 16)), (.nm 13), bYes⟩ [] (sCall SF (aC (sVar 13) (aC (sVar 10) aN)))) [S, x1, x2, some (.val (.int (n : Int))), x4, x5, x6, x7, x8, x9, some (.val (eV v)), x11, x12, none, x14, x15, some (.val (eT th)), x17, x18, x19, x20, x21, x22, x23, x24] = .ok (.own (.lst (th.map fun b => eB (shiftedB b v)))) [S, x1, x2, some (.val (.int (n : Int))), x4, x5, x6, x7, x8, x9, some (.val (eV v)), x11, x12, none, x14, x15, some (.val (eT th)), x17, x18, x19, x20, x21, x22, x23, x24] := by
    refine sLC_one th eB _ ?_ ?_ ?_ ?_
    · simp [it_eT]
    · simp
    · intro b hb
      simp [turnC, h4 b hb]
    · exact sizeLine_big (by omega)
  have e : PyData.tuple (th.map fun b => eB (shiftedB b v)) = eT (th.map fun b => shiftedB b v) := by simp [eT]
  have hs := hS true true
  unfold a15
  simp [h1, hs, h2, h3]
  simp [h, e, h5]
theorem plain_boxes (xs : List Bx) : PyData.plainAll (xs.map eB) = true := plainAll_map eB plain_eB xs
theorem okEq_boxes (xs : List Bx) : okEq (.list (xs.map eB)) = true := by
  have h1 : (PyData.list (xs.map eB)).plain = true := by rw [plain_list]; exact plain_boxes xs
  have h2 : (PyData.list (xs.map eB)).depth ≤ 60 := by
    have := depth_mem (n := 4) (xs := xs.map eB) fun d hd => by
      obtain ⟨u, _, rfl⟩ := List.mem_map.mp hd
      exact depth_eB u
    simp only [PyData.depth]
    omega
  unfold okEq
  rw [h1, decide_eq_true h2]
  rfl
theorem filt_any {α β : Type} (xs : List α) (p : α → Bool) (f : α → β) : (!((xs.filter p).map f).isEmpty) = xs.any p := by
  induction xs with
  | nil => rfl
  | cons x xs ih =>
    rw [List.filter_cons, List.any_cons, ← ih]
    cases p x <;> simp
theorem run16 {SY CS CL : Fn} {n : Nat} {th mo : List Bx} (hS : SayOk SY) (l1 : th.length ≤ 1000) (l2 : mo.length ≤ 1000) (n1 : ∀ b ∈ th, b.length = n) (n2 : ∀ b ∈ mo, b.length = n) (h1 : CS [eT th, eT mo] = .ok (.val (.bool (th.any fun x => mo.any fun y => clashB x y))))
    (hC : ∀ p q : Bx, p.length = n → q.length = n → CL [eB p, eB q] = .ok (.val (.bool (clashB p q)))) : a16 SY CS CL [S, x1, x2, x3, x4, x5, x6, x7, x8, x9, x10, x11, x12, none, x14, x15, some (.val (eT th)), some (.val (eT mo)), none, x19, x20, x21, x22, x23, x24] = .nx [S, x1, x2, x3, x4, x5, x6, x7, x8, x9, x10, x11, x12, none, x14, x15, some (.val (eT th)), some (.val (eT mo)), none, x19, x20, x21, x22, x23, x24] := by
  have h : (sListComp [13] ⟨(sIt (sVar 16)), (.nm 13), (bVal (sOp2 pNe (.ex (sListComp [18] ⟨(sIt (sVar 17)), (.nm 18), (bTru (.ex (sCall CL (aC (sVar 13) (aC (sVar 18) aN)))))⟩ [] (sVar 18))) (.ex (sLst aN))))⟩ [] (sVar 13)) [S, x1, x2, x3, x4, x5, x6, x7, x8, x9, x10, x11, x12, none, x14, x15, some (.val (eT th)), some (.val (eT mo)), none, x19, x20, x21, x22, x23, x24] = .ok (.own (.lst ((th.filter fun x => mo.any fun y => clashB x y).map eB))) [S, x1, x2, x3, x4, x5, x6, x7, x8, x9, x10, x11, x12, none, x14, x15, some (.val (eT th)), some (.val (eT mo)), none, x19, x20, x21, x22, x23, x24] := by
    refine sLC_if th eB _ eB ?_ ?_ ?_ ?_
    · simp [it_eT]
    · simp
    · intro x hx
      have hi : (sListComp [18] ⟨(sIt (sVar 17)), (.nm 18), (bTru (.ex (sCall CL (aC (sVar 13) (aC (sVar 18) aN)))))⟩ [] (sVar 18)) [S, x1, x2, x3, x4, x5, x6, x7, x8, x9, x10, x11, x12, some (.val (eB x)), x14, x15, some (.val (eT th)), some (.val (eT mo)), none, x19, x20, x21, x22, x23, x24] = .ok (.own (.lst ((mo.filter fun y => clashB x y).map eB))) [S, x1, x2, x3, x4, x5, x6, x7, x8, x9, x10, x11, x12, some (.val (eB x)), x14, x15, some (.val (eT th)), some (.val (eT mo)), none, x19, x20, x21, x22, x23, x24] := by
        refine sLC_if mo eB _ eB ?_ ?_ ?_ ?_
        · simp [it_eT]
        · simp
        · intro y hy
          have := hC x y (n1 x hx) (n2 y hy)
          cases hc : clashB x y <;> rw [hc] at this <;> simp [turnC, this]
        · exact sizeLine_big (by omega)
      simp only [turnC, assignT_nm, wipeE_cons, wipeE_nil, List.set, bVal_ap]
      rw [sNeNil hi (okEq_boxes _), filt_any]
      cases hq : mo.any fun y => clashB x y <;> simp
    · exact sizeLine_big (by omega)
  have h2 := sNeNil h (okEq_boxes _)
  rw [filt_any] at h2
  have hs := hS (th.any fun x => mo.any fun y => clashB x y) (th.any fun x => mo.any fun y => clashB x y)
  unfold a16
  simp only [mIf_ap, bNot_ap, bTru_ap, ph1_ex, ph2_ex, sCall_ap, aC_ap, aN_ap, sVar_ap, List.getElem?_cons_zero, List.getElem?_cons_succ, Res.bind_ok, frz_val, h1, h2, hs]
  simp
def VolOk (VO : Fn) (n : Nat) : Prop := ∀ (d : D) (bs : List Bx), iterD d = some (bs.map eB) → (∀ b ∈ bs, midB n b) → (bs.flatMap cells).length ≤ 1000000 → VO [d] = .ok (.val (.int (volB bs)))
theorem eT_app (xs ys : List Bx) (h : xs.length + ys.length ≤ 1000000) : pAdd (eT xs) (eT ys) = some (.val (eT (xs ++ ys))) := by
  unfold eT
  rw [pAdd_tt _ _ (by simpa using h), List.map_append]
theorem pAdd_ll (xs ys : List D) (h : xs.length + ys.length ≤ 1000000) : pAdd (.list xs) (.list ys) = some (.own (.lst (xs ++ ys))) := by
  show (if xs.length + ys.length ≤ sizeLine then some (Sl.own (.lst (xs ++ ys))) else none) = _
  rw [if_pos (sizeLine_big h)]
theorem mid_app {n : Nat} {xs ys : List Bx} (h1 : ∀ b ∈ xs, midB n b) (h2 : ∀ b ∈ ys, midB n b) : ∀ b ∈ xs ++ ys, midB n b := fun b hb => by
  rcases List.mem_append.mp hb with hb | hb
  · exact h1 b hb
  · exact h2 b hb
theorem run17 {VO UN : Fn} {n : Nat} {th mo : List Bx} (hn : n = 2 ∨ n = 3) (l1 : th.length ≤ 4) (l2 : mo.length ≤ 3) (m1 : ∀ b ∈ th, midB n b) (m2 : ∀ b ∈ mo, midB n b) (hV : VolOk VO n) (hU : UnitsOk UN n) : a17 VO UN [S, x1, x2, x3, x4, x5, x6, x7, x8, x9, x10, x11, x12, x13, x14, x15, some (.val (eT th)), some (.val (eT mo)), x18, x19, x20, x21, x22, x23, x24] = .nx [S, x1, x2, x3, x4, x5, x6, x7, x8, x9, x10, x11, x12, x13, x14, x15, some (.val (eT th)), some (.val (eT mo)), x18, x19, x20, x21, x22, x23, x24] := by
  have m3 := mid_app m1 m2
  have c1 : (th.flatMap cells).length ≤ 1000000 := by have := flat_mid hn m1; omega
  have c3 : ((th ++ mo).flatMap cells).length ≤ 1000000 := by have := flat_mid hn m3; simp at this ⊢; omega
  obtain ⟨U, u1, u2, u3⟩ := hU (eT th) th rfl m1 c1
  obtain ⟨W, w1, w2, w3⟩ := hU (eT (th ++ mo)) (th ++ mo) rfl m3 c3
  have v1 := hV (eT th) th rfl m1 c1
  have v3 := hV (.list ((th ++ mo).map eB)) (th ++ mo) rfl m3 c3
  rw [vol_units (fun b hb => (mid_good (m1 b hb)).1) u1] at v1
  rw [vol_units (fun b hb => (mid_good (m3 b hb)).1) w1] at v3
  have q1 : pListC2 [eT th] = some (.own (.lst (th.map eB))) := rfl
  have q2 : pListC2 [eT mo] = some (.own (.lst (mo.map eB))) := rfl
  have q3 := pAdd_ll (th.map eB) (mo.map eB) (by simp; omega)
  rw [← List.map_append] at q3
  have q4 := eT_app th mo (by omega)
  unfold a17
  simp only [mIf_ap, bOr_ap, bVal_ap, sOp2_ap, sN1_ap, ph1_ex, ph2_ex, ph1_nm, ph2_nm, sCall_ap, aC_ap, aN_ap, sVar_ap, List.getElem?_cons_zero, List.getElem?_cons_succ, Res.bind_ok, frz_val, frz_dct, frz_lst, v1, u3, Option.bind_some, lenU, Res.ofO_some, pNe_int, beq_self_eq_true, Bool.not_true, boolD_b, Bool.false_eq_true, if_false, q1, q2, q3, v3, q4, w3, Res.out_ok, mNext_ap]
theorem neNil (xs : List Bx) : pNe (.list (xs.map eB)) (.list []) = some (.val (.bool (!xs.isEmpty))) := by
  unfold pNe
  rw [okEq_boxes]
  have e : PyData.eqv (.list (xs.map eB)) (.list []) = xs.isEmpty := by cases xs <;> simp [PyData.eqv, PyData.eqvAll]
  rw [e]
  simp [vB, okEq, PyData.depth, PyData.depthAll]
theorem run18 {n : Nat} {b c : Bx} {mo : List Bx} (hl : (woB b c).length ≤ 4096) (l2 : mo.length ≤ 3) : a18 [S, x1, x2, x3, x4, x5, x6, x7, x8, x9, x10, x11, some (.val (.list ((woB b c).map eB))), x13, x14, x15, x16, some (.val (eT mo)), x18, x19, x20, x21, x22, x23, x24] = .nx [S, x1, x2, x3, x4, x5, x6, x7, x8, x9, x10, x11, some (.val (.list ((woB b c).map eB))), x13, x14, x15, x16, some (.val (eT mo)), x18, some (.val (eT (woB b c ++ mo))), x20, x21, x22, x23, x24] := by
  have q := eT_app (woB b c) mo (by omega)
  have qt : pTuple [.list ((woB b c).map eB)] = some (.val (eT (woB b c))) := rfl
  have e0 : (0 : Nat) ≤ sizeLine := Nat.zero_le _
  have hne := neNil (woB b c)
  unfold a18
  simp only [mSet_ap, sIf_ap, bVal_ap, sOp2_ap, ph1_nm, ph2_nm, ph1_ex, ph2_ex, sLst_ap, aN_ap, List.getElem?_cons_zero, List.getElem?_cons_succ, Res.bind_ok, List.length_nil, if_pos e0, frz_val, frz_lst, Option.bind_some, hne, Res.ofO_some, boolD_b]
  by_cases hw : woB b c = []
  · rw [hw]
    simp
  · have : (woB b c).isEmpty = false := by simp [hw]
    rw [this]
    simp only [Bool.not_false, if_true, sN1_ap, ph1_nm, ph2_nm, List.getElem?_cons_zero, List.getElem?_cons_succ, Res.bind_ok, frz_val, Option.bind_some, qt, Res.ofO_some, q, Res.out_ok, List.set]
theorem units_all {n : Nat} {bs : List Bx} {U : List Un} (h : ∀ b ∈ bs, midB n b) (hu : unitsOf bs U) : ∀ u ∈ U, u.length = n := unitsOf_len (fun b hb => (h b hb).1) hu
theorem left_mid {n : Nat} {b c : Bx} {mo : List Bx} (hn : n = 2 ∨ n = 3) (hb : midB n b) (hc : midB n c) (l2 : mo.length ≤ 3) (m2 : ∀ b ∈ mo, midB n b) : (∀ x ∈ woB b c ++ mo ++ [c], midB n x) ∧ (∀ x ∈ [b, c] ++ mo, midB n x) ∧ ((woB b c ++ mo ++ [c]).flatMap cells).length ≤ 100000 ∧ (([b, c] ++ mo).flatMap cells).length ≤ 100000 := by
  have gc := (mid_good hc).1
  have f := (woB_few hn hb gc).2
  have m1 : ∀ x ∈ [c], midB n x := by simpa using hc
  have m3 : ∀ x ∈ [b, c], midB n x := by simp [hb, hc]
  have fm := flat_mid hn m2
  have fc := flat_mid hn m1
  have fd := flat_mid hn m3
  refine ⟨mid_app (mid_app (woB_mid hb gc) m2) m1, mid_app m3 m2, ?_, ?_⟩
  · simp only [List.flatMap_append, List.length_append] at f fm fc ⊢
    simp only [List.length_cons, List.length_nil] at fc
    omega
  · simp only [List.flatMap_append, List.length_append] at fd fm ⊢
    simp only [List.length_cons, List.length_nil] at fd
    omega
theorem add1 (xs : List Bx) (c : Bx) (h : xs.length ≤ 100000) : pAdd (eT xs) (.tuple [eB c]) = some (.val (eT (xs ++ [c]))) := eT_app xs [c] (by simp; omega)
theorem add2 (b c : Bx) (xs : List Bx) (h : xs.length ≤ 100000) : pAdd (.tuple [eB b, eB c]) (eT xs) = some (.val (eT ([b, c] ++ xs))) := eT_app [b, c] xs (by simp; omega)
theorem run19 {UN : Fn} {n : Nat} {b c : Bx} {mo : List Bx} (hn : n = 2 ∨ n = 3) (hb : midB n b) (hc : midB n c) (l2 : mo.length ≤ 3) (m2 : ∀ b ∈ mo, midB n b) (hU : UnitsOk UN n) : ∃ U V : List Un, unitsOf (woB b c ++ mo ++ [c]) U ∧ unitsOf ([b, c] ++ mo) V ∧
    a19 UN [S, x1, x2, x3, some (.val (eB b)), some (.val (eB c)), x6, x7, x8, x9, x10, x11, x12, x13, x14, x15, x16, some (.val (eT mo)), x18, some (.val (eT (woB b c ++ mo))), x20, x21, x22, x23, x24] = .nx [S, x1, x2, x3, some (.val (eB b)), some (.val (eB c)), x6, x7, x8, x9, x10, x11, x12, x13, x14, x15, x16, some (.val (eT mo)), x18, some (.val (eT (woB b c ++ mo))), some (.val (.bool (sameB U V))), x21, x22, x23, x24] := by
  obtain ⟨g1, g2, g3, g4⟩ := left_mid hn hb hc l2 m2
  have hl := (woB_few hn hb (mid_good hc).1).1
  obtain ⟨U, u1, u2, u3⟩ := hU (eT (woB b c ++ mo ++ [c])) _ rfl g1 (by omega)
  obtain ⟨V, v1, v2, v3⟩ := hU (eT ([b, c] ++ mo)) _ rfl g2 (by omega)
  refine ⟨U, V, u1, v1, ?_⟩
  have q1 := add1 (woB b c ++ mo) c (by simp; omega)
  have q2 := add2 b c mo (by omega)
  have s1 := psU U (show 0 < n by omega) (units_all g1 u1) u2
  have s2 := psU V (show 0 < n by omega) (units_all g2 v1) v2
  unfold a19
  simp only [mSet_ap, sOp2_ap, sN1_ap, ph1_ex, ph2_ex, ph1_nm, ph2_nm, sCall_ap, aC_ap, aN_ap, sVar_ap, sTup_ap, List.getElem?_cons_zero, List.getElem?_cons_succ, Res.bind_ok, frz_val, frz_dct, frz_lst, List.length_cons, List.length_nil, Nat.zero_add, Nat.reduceAdd, if_pos z1, if_pos z2, Option.bind_some, q1, Res.ofO_some, u3, lstU, s1, q2, v3, s2, eqU, Res.out_ok, List.set]
def RoomsOk (SR : Fn) (n : Nat) : Prop := ∀ as bs : List Bx, (∀ b ∈ as, midB n b) → (∀ b ∈ bs, midB n b) → ((as ++ bs).flatMap cells).length ≤ 1000000 → (as ++ bs).length ≤ 1000000 → SR [eT as, eT bs] = .ok (.val (.bool (decide (volB as = volB (as ++ bs)) && decide (volB bs = volB (as ++ bs)))))
theorem rooms_same {n : Nat} {as bs : List Bx} {U V : List Un} (ha : ∀ b ∈ as, midB n b) (hb : ∀ b ∈ bs, midB n b) (hu : unitsOf as U) (hv : unitsOf bs V) : (decide (volB as = volB (as ++ bs)) && decide (volB bs = volB (as ++ bs))) = sameB U V := by
  rw [Bool.eq_iff_iff, Bool.and_eq_true, decide_eq_true_iff, decide_eq_true_iff, same_iff (fun b h => (mid_good (ha b h)).1) (fun b h => (mid_good (hb b h)).1) hu hv, sameB_iff hu.1 hv.1]
theorem run20 {SY SR UN : Fn} {n : Nat} {b c : Bx} {th mo : List Bx} {U V : List Un} (hS : SayOk SY) (hn : n = 2 ∨ n = 3) (hb : midB n b) (hc : midB n c) (l1 : th.length ≤ 4) (l2 : mo.length ≤ 3) (m1 : ∀ b ∈ th, midB n b) (m2 : ∀ b ∈ mo, midB n b) (hU : UnitsOk UN n) (hR : RoomsOk SR n)
    (hu : unitsOf (woB b c ++ mo ++ [c]) U) (hv : unitsOf ([b, c] ++ mo) V) : a20 SY SR UN [S, x1, x2, x3, some (.val (eB b)), some (.val (eB c)), x6, x7, x8, x9, x10, x11, x12, x13, x14, x15, some (.val (eT th)), some (.val (eT mo)), x18, some (.val (eT (woB b c ++ mo))), some (.val (.bool (sameB U V))), x21, x22, x23, x24] = .nx [S, x1, x2, x3, some (.val (eB b)), some (.val (eB c)), x6, x7, x8, x9, x10, x11, x12, x13, x14, x15, some (.val (eT th)), some (.val (eT mo)), x18, some (.val (eT (woB b c ++ mo))), some (.val (.bool (sameB U V))), x21, x22, x23, x24] := by
  obtain ⟨g1, g2, g3, g4⟩ := left_mid hn hb hc l2 m2
  have hl := (woB_few hn hb (mid_good hc).1).1
  have r1 := hR _ _ g1 g2 (by rw [List.flatMap_append, List.length_append]; omega) (by simp; omega)
  rw [rooms_same g1 g2 hu hv] at r1
  have c1 := flat_mid hn m1
  have c2 := flat_mid hn m2
  obtain ⟨X, u1, u2, u3⟩ := hU (eT th) _ rfl m1 (by omega)
  obtain ⟨Y, v1, v2, v3⟩ := hU (eT mo) _ rfl m2 (by omega)
  have r2 := hR _ _ m1 m2 (by rw [List.flatMap_append, List.length_append]; omega) (by simp; omega)
  rw [rooms_same m1 m2 u1 v1] at r2
  have q1 := add1 (woB b c ++ mo) c (by simp; omega)
  have q2 := add2 b c mo (by omega)
  have s1 := psU X (show 0 < n by omega) (units_all m1 u1) u2
  have s2 := psU Y (show 0 < n by omega) (units_all m2 v1) v2
  have y1 := hS (sameB U V) (sameB U V)
  have y2 := hS (sameB X Y) (sameB X Y)
  rw [beq_self_eq_true] at y1 y2
  unfold a20
  simp only [mIf_ap, bOr_ap, bNot_ap, bTru_ap, sOp2_ap, sN1_ap, ph1_ex, ph2_ex, ph1_nm, ph2_nm, sCall_ap, aC_ap, aN_ap, sVar_ap, sTup_ap, List.getElem?_cons_zero, List.getElem?_cons_succ, Res.bind_ok, frz_val, frz_dct, frz_lst, List.length_cons, List.length_nil, Nat.zero_add, Nat.reduceAdd, if_pos z1, if_pos z2, Option.bind_some, q1, Res.ofO_some, u3, lstU, s1, q2, v3, s2, eqU, r1, r2, y1, y2, truD_bool, Bool.not_true, Bool.false_eq_true, if_false, Res.out_ok, mNext_ap]
theorem run21 {AL HU : Fn} {n : Nat} {th : List Bx} (hn : n ≤ 1000) (h0 : 0 < th.length) (l1 : th.length ≤ 1000) (m1 : ∀ b ∈ th, b.length = n) (k8 : keepV x8 = x8) (h1 : HU [eT th] = .ok (.val (eB (hullB th n)))) (h2 : AL [eB (hullB th n), eB (hullB th n)] = .ok (.val (.bool true))) : a21 AL HU [S, x1, x2, some (.val (.int (n : Int))), x4, x5, x6, x7, x8, x9, x10, x11, x12, none, x14, x15, some (.val (eT th)), x17, x18, x19, x20, x21, x22, x23, x24] = .nx [S, x1, x2, some (.val (.int (n : Int))), x4, x5, x6, x7, x8, x9, x10, x11, x12, none, x14, x15, some (.val (eT th)), x17, x18, x19, x20, x21, x22, x23, x24] := by
  have hne : th ≠ [] := List.length_pos_iff.mp h0
  have h : (sListComp [8] ⟨(sRange1 (aC (sVar 3) aN)), (.nm 8), bYes⟩ [] (sTup (aC (sN pMin [(.ex (sListComp [13] ⟨(sIt (sVar 16)), (.nm 13), bYes⟩ [] (sOp2 pIx2 (.ex (sOp2 pIx2 (.nm 13) (.nm 8))) (.ex (sC (.int 0))))))]) (aC (sN pMax [(.ex (sListComp [13] ⟨(sIt (sVar 16)), (.nm 13), bYes⟩ [] (sOp2 pIx2 (.ex (sOp2 pIx2 (.nm 13) (.nm 8))) (.ex (sC (.int 1))))))]) aN)))) [S, x1, x2, some (.val (.int (n : Int))), x4, x5, x6, x7, x8, x9, x10, x11, x12, none, x14, x15, some (.val (eT th)), x17, x18, x19, x20, x21, x22, x23, x24] = .ok (.own (.lst ((List.range n).map fun k => eP (loMin th k, hiMax th k)))) [S, x1, x2, some (.val (.int (n : Int))), x4, x5, x6, x7, x8, x9, x10, x11, x12, none, x14, x15, some (.val (eT th)), x17, x18, x19, x20, x21, x22, x23, x24] := by
    refine sLC_one (List.range n) eN _ ?_ ?_ ?_ ?_
    · exact sRange1_s (by simp) (by omega)
    · simp [k8]
    · intro k hk
      have hk' : k < n := List.mem_range.mp hk
      have i0 : ∀ ρ8 : Ev, ρ8 = [S, x1, x2, some (.val (.int (n : Int))), x4, x5, x6, x7, some (.val (eN k)), x9, x10, x11, x12, none, x14, x15, some (.val (eT th)), x17, x18, x19, x20, x21, x22, x23, x24] → (sListComp [13] ⟨(sIt (sVar 16)), (.nm 13), bYes⟩ [] (sOp2 pIx2 (.ex (sOp2 pIx2 (.nm 13) (.nm 8))) (.ex (sC (.int 0))))) ρ8 = .ok (.own (.lst ((th.map fun b => b[k]!.1).map .int))) ρ8 := by
        intro ρ8 e8
        rw [e8, List.map_map]
        refine sLC_one th eB _ ?_ ?_ ?_ ?_
        · simp [it_eT]
        · simp
        · intro b hb
          have hkb : k < b.length := by rw [m1 b hb]; exact hk'
          have g := ix_eB b hkb
          simp [turnC, eN, g, eP, hkb]
        · exact sizeLine_big (by omega)
      have i1 : ∀ ρ8 : Ev, ρ8 = [S, x1, x2, some (.val (.int (n : Int))), x4, x5, x6, x7, some (.val (eN k)), x9, x10, x11, x12, none, x14, x15, some (.val (eT th)), x17, x18, x19, x20, x21, x22, x23, x24] → (sListComp [13] ⟨(sIt (sVar 16)), (.nm 13), bYes⟩ [] (sOp2 pIx2 (.ex (sOp2 pIx2 (.nm 13) (.nm 8))) (.ex (sC (.int 1))))) ρ8 = .ok (.own (.lst ((th.map fun b => b[k]!.2).map .int))) ρ8 := by
        intro ρ8 e8
        rw [e8, List.map_map]
        refine sLC_one th eB _ ?_ ?_ ?_ ?_
        · simp [it_eT]
        · simp
        · intro b hb
          have hkb : k < b.length := by rw [m1 b hb]; exact hk'
          have g := ix_eB b hkb
          simp [turnC, eN, g, eP, hkb]
        · exact sizeLine_big (by omega)
      have p0 := pMin_ints (th.map fun b => b[k]!.1) (by simpa using hne)
      have p1 := pMax_ints (th.map fun b => b[k]!.2) (by simpa using hne)
      simp only [turnC, assignT_nm, wipeE_cons, wipeE_nil, List.set, bYes_ap, Res.bind_ok, if_true, emit1_ap, sTup_ap, aC_ap, aN_ap, sN1_ap, ph1_ex, i0 _ rfl, i1 _ rfl, frz_lst, ph2_ex, Option.bind_some, p0, p1, Res.ofO_some, frz_val, List.length_cons, List.length_nil, Nat.zero_add, Nat.reduceAdd, if_pos z2, slots_nm]
      rfl
    · rw [List.length_range]; exact sizeLine_big (by omega)
  have e : PyData.tuple ((List.range n).map fun k => eP (loMin th k, hiMax th k)) = eB (hullB th n) := by simp [eB, hullB]
  unfold a21
  simp only [mIf_ap, bNot_ap, bTru_ap, ph1_ex, ph2_ex, sCall_ap, aC_ap, aN_ap, sVar_ap, sN1_ap, List.getElem?_cons_zero, List.getElem?_cons_succ, Res.bind_ok, frz_val, frz_lst, h1, h, Option.bind_some, pTuple_list, e, Res.ofO_some, h2, truD_bool, Bool.not_true, Bool.false_eq_true, if_false, Res.out_ok, mNext_ap]
end
end Sd.K04

set_option Elab.async false
set_option linter.all false
set_option maxRecDepth 100000
set_option maxHeartbeats 4000000
set_option autoImplicit false
namespace Sd.K04
open PySem PySem.Spec PyProof.Rows L2 C8 Sd PySem.W
section
variable {S x1 x2 x3 x4 x5 x6 x7 x8 x9 x10 x11 x12 x13 x14 x15 x16 x17 x18 x19 x20 x21 x22 x23 x24 : Option Sl}


def NoThing (d : D) : Prop := d.plain = true ∧ F_is_thing [d] = .ok (.val (.bool false))
theorem nt_none : NoThing .none := ⟨by simp, is_thing_no_tuple _ (by simp) rfl⟩
theorem nt_empty : NoThing (.tuple []) := ⟨by simp, is_thing_len [] (by simp) (by simp)⟩
theorem nt_list (th : List Bx) : NoThing (.list (th.map eB)) := by
  have h : (PyData.list (th.map eB)).plain = true := by rw [plain_list]; exact plain_boxes th
  exact ⟨h, is_thing_no_tuple _ h rfl⟩
theorem nt_bent (pre post : List Bx) (x : D) (h : x.plain = true) (hx : boxB x = false) (hl : pre.length + 1 + post.length ≤ 8) : NoThing (.tuple ((pre.map eB ++ [x]) ++ post.map eB)) := by
  have p : PyData.plainAll ((pre.map eB ++ [x]) ++ post.map eB) = true := by
    rw [plainAll_app, plainAll_app, plain_boxes, plain_boxes]
    simp [h]
  refine ⟨by rw [plain_tuple]; exact p, is_thing_bad _ p (by simp; omega) (by simp; omega) ?_⟩
  simp [hx]
theorem adj_bad (x y : Bx) (post : List Bx) (h : ltB x y = false) : ∀ pre : List Bx, (((pre ++ x :: y :: post).zip (pre ++ x :: y :: post).tail).all fun p => ltB p.1 p.2) = false
  | [] => by simp [h]
  | a :: pre => by
    have ih := adj_bad x y post h pre
    cases pre with
    | nil =>
      simp only [List.nil_append, List.cons_append, List.tail_cons] at ih ⊢
      rw [List.zip_cons_cons, List.all_cons, ih, Bool.and_false]
    | cons b pre =>
      simp only [List.nil_append, List.cons_append, List.tail_cons] at ih ⊢
      rw [List.zip_cons_cons, List.all_cons, ih, Bool.and_false]
theorem ltB_irr (x : Bx) : ltB x x = false := lt_irr _
theorem nt_adj (L : List Bx) (pre post : List Bx) (x y : Bx) (hL : L = pre ++ x :: y :: post) (h : ltB x y = false) (hl : L.length ≤ 8) (hb : ∀ b ∈ L, boxB (eB b) = true) : NoThing (eT L) := by
  refine ⟨plain_eT _, ?_⟩
  have adj : ((L.zip L.tail).all fun p => ltB p.1 p.2) = false := by rw [hL]; exact adj_bad x y post h pre
  cases L with
  | nil => cases pre <;> simp at hL
  | cons b bs =>
    rw [is_thing_T b bs hl (by rw [List.all_map, List.all_eq_true]; exact hb)]
    rw [List.tail_cons] at adj
    rw [adj, Bool.and_false]
theorem sT_to (pre rest : List Bx) (i : Nat) (h : i = pre.length) : pSl none (some (i : Int)) (eT (pre ++ rest)) = some (.val (eT pre)) := by
  show some (Sl.val (.tuple (cutD ((pre ++ rest).map eB) none (some (i : Int))))) = _
  rw [List.map_append, cutD_to _ _ i (by simp [h])]
  rfl
theorem sT_from1 (pre rest : List Bx) (r : Bx) (i : Nat) (h : i = pre.length) : pSl (some ((i : Int) + 1)) none (eT (pre ++ r :: rest)) = some (.val (eT rest)) := by
  show some (Sl.val (.tuple (cutD ((pre ++ r :: rest).map eB) (some ((i : Int) + 1)) none))) = _
  rw [show ((i : Int) + 1) = ((i + 1 : Nat) : Int) by omega, show pre ++ r :: rest = (pre ++ [r]) ++ rest by simp, List.map_append, cutD_from _ _ (i + 1) (by simp [h])]
  rfl
theorem cutD_last (xs : List D) (x : D) : cutD (xs ++ [x]) (some (-1)) none = [x] := by
  have e : HT.sIx (xs ++ [x]).length 0 (some (-1)) = xs.length := by
    simp [HT.sIx]
    omega
  unfold cutD
  rw [e, HT.sIx_none]
  simp
theorem sT_last (pre : List Bx) (r : Bx) : pSl (some (-1)) none (eT (pre ++ [r])) = some (.val (eT [r])) := by
  show some (Sl.val (.tuple (cutD ((pre ++ [r]).map eB) (some (-1)) none))) = _
  rw [List.map_append, List.map_cons, List.map_nil, cutD_last]
  rfl
theorem len_eT2 (th : List Bx) : pLen2 [eT th] = some (.val (.int th.length)) := by
  show some (Sl.val (.int ((th.map eB).length : Nat))) = _
  rw [List.length_map]
def BoxesOk (n : Nat) (th : List Bx) : Prop := 0 < th.length ∧ th.length ≤ 4 ∧ (∀ b ∈ th, b.length = n ∧ ∀ p ∈ b, near p) ∧ (th.Pairwise fun a b => ltB a b = true)
theorem run22 {T : FnL} {n : Nat} {th : List Bx} (hT : TakeOk T) (h : BoxesOk n th) (ds : List Int) : ∃ (k : Nat) (es : List Int), k < th.length ∧ a22 T [S, some (.own (oI ds)), x2, x3, x4, x5, x6, x7, x8, x9, x10, x11, x12, x13, x14, x15, some (.val (eT th)), x17, x18, x19, x20, x21, x22, x23, x24] = .nx [S, some (.own (oI es)), x2, x3, x4, x5, x6, x7, some (.val (.int (k : Int))), x9, x10, x11, x12, x13, x14, x15, some (.val (eT th)), x17, x18, x19, x20, x21, x22, x23, x24] := by
  obtain ⟨k, es, k0, k1, t1⟩ := hT ds th.length (by have := h.1; omega)
  obtain ⟨k, rfl⟩ := Int.eq_ofNat_of_zero_le k0
  refine ⟨k, es, by omega, ?_⟩
  unfold a22
  simp [len_eT2, t1]
theorem run23 {N : FnL} {n k : Nat} {th : List Bx} (hn : n = 2 ∨ n = 3) (h : BoxesOk n th) (hk : k < th.length) (hN : ∀ b ∈ th, ∀ ds : List Int, ∃ (x : D) (es : List Int), x.plain = true ∧ boxB x = false ∧ N (oI ds) [eB b] = .ok (.val x) (.own (oI es))) (ds : List Int) :
    ∃ (bads : List D) (es : List Int), bads.length = 6 ∧ (∀ d ∈ bads, NoThing d) ∧ a23 N [S, some (.own (oI ds)), x2, x3, x4, x5, x6, x7, some (.val (.int (k : Int))), x9, x10, x11, x12, x13, x14, x15, some (.val (eT th)), x17, x18, x19, x20, x21, x22, x23, x24] = .nx [S, some (.own (oI es)), x2, x3, x4, x5, x6, x7, some (.val (.int (k : Int))), x9, x10, x11, x12, x13, x14, x15, some (.val (eT th)), x17, x18, x19, x20, some (.own (.lst bads)), x22, x23, x24] := by
  obtain ⟨q1, q2, q3, q4⟩ := h
  obtain ⟨pre, r, post, hce, hpre⟩ : ∃ pre r post, th = pre ++ r :: post ∧ pre.length = k :=
    ⟨th.take k, th[k], th.drop (k + 1), by rw [List.getElem_cons_drop, List.take_append_drop], by simp; omega⟩
  obtain ⟨ini, l, hl⟩ : ∃ ini l, th = ini ++ [l] := by
    rcases List.eq_nil_or_concat th with h | ⟨i, l, h⟩
    · rw [h] at q1; cases q1
    · exact ⟨i, l, by rw [h, List.concat_eq_append]⟩
  obtain ⟨x, es, px, bx, t1⟩ := hN r (by rw [hce]; simp) ds
  have lp : pre.length + 1 + post.length = th.length := by rw [hce]; simp; omega
  have s1 := sT_to pre (r :: post) k hpre.symm
  have s2 := sT_from1 pre post r k hpre.symm
  have s3 := sT_last ini l
  have s4 : pIx2 (eT th) (.int (k : Int)) = some (.val (eB r)) := by
    rw [ix_eT th hk]
    simp [hce, ← hpre]
  rw [← hce] at s1 s2
  rw [← hl] at s3
  have d1 : pAdd (eT pre) (.tuple [x]) = some (.val (.tuple (pre.map eB ++ [x]))) := pAdd_tt _ _ (by simp; omega)
  have d2 : pAdd (.tuple (pre.map eB ++ [x])) (eT post) = some (.val (.tuple ((pre.map eB ++ [x]) ++ post.map eB))) := pAdd_tt _ _ (by simp; omega)
  have d3 : pAdd (eT pre) (.tuple [.none]) = some (.val (.tuple (pre.map eB ++ [.none]))) := pAdd_tt _ _ (by simp; omega)
  have d4 : pAdd (.tuple (pre.map eB ++ [.none])) (eT post) = some (.val (.tuple ((pre.map eB ++ [.none]) ++ post.map eB))) := pAdd_tt _ _ (by simp; omega)
  have d5 := eT_app th [l] (by simp; omega)
  have lc : pListC2 [eT th] = some (.own (.lst (th.map eB))) := rfl
  refine ⟨[.none, .tuple [], .list (th.map eB), .tuple ((pre.map eB ++ [x]) ++ post.map eB), eT (th ++ [l]), .tuple ((pre.map eB ++ [.none]) ++ post.map eB)], es, rfl, ?_, ?_⟩
  · intro d hd
    simp only [List.mem_cons, List.not_mem_nil, or_false] at hd
    rcases hd with rfl | rfl | rfl | rfl | rfl | rfl
    · exact nt_none
    · exact nt_empty
    · exact nt_list th
    · exact nt_bent pre post x px bx (by omega)
    · refine nt_adj (th ++ [l]) ini [] l l (by rw [hl]; simp) (ltB_irr l) (by simp; omega) fun b hb => ?_
      have hb' : b ∈ th := by
        rcases List.mem_append.mp hb with hb | hb
        · exact hb
        · rw [hl]; simp at hb ⊢; exact .inr hb
      exact near_boxB (by rw [(q3 b hb').1]; exact hn) (q3 b hb').2
    · exact nt_bent pre post .none (by simp) rfl (by omega)
  · have e0 : (0 : Nat) ≤ sizeLine := Nat.zero_le _
    unfold a23
    simp only [mSet_ap, sLst_ap, aC_ap, sC_ap, Res.bind_ok, sTup_ap, aN_ap, List.length_nil, if_pos e0, sN1_ap, ph1_nm, ph2_nm, List.getElem?_cons_zero, List.getElem?_cons_succ, frz_val, Option.bind_some, lc, Res.ofO_some, sOp2_ap, ph1_ex, ph2_ex, sSl_ap, bd_no, bd_ex, sVar_ap, intD_i, s1, s4, sCallL_ap, t1, List.set, List.length_cons, Nat.zero_add, Nat.reduceAdd, if_pos z1, d1, pAdd_int, s2, d2, sOp1_ap, pNeg_int, s3, d5, d3, d4, frz_lst, if_pos z6, Res.out_ok]
theorem run24 {n : Nat} {th : List Bx} {bads : List D} (hn : n = 2 ∨ n = 3) (h : BoxesOk n th) (hl : bads.length = 6) (hb : ∀ d ∈ bads, NoThing d) : ∃ bad : D, NoThing bad ∧ a24 [S, x1, x2, some (.val (.int (n : Int))), x4, x5, x6, x7, x8, x9, x10, x11, x12, x13, x14, x15, some (.val (eT th)), x17, x18, x19, x20, some (.own (.lst bads)), x22, x23, x24] = .nx [S, x1, x2, some (.val (.int (n : Int))), x4, x5, x6, x7, x8, x9, x10, x11, x12, x13, x14, x15, some (.val (eT th)), x17, x18, x19, x20, some (.own (.lst (bads ++ [bad]))), x22, x23, x24] := by
  obtain ⟨q1, q2, q3, q4⟩ := h
  cases th with
  | nil => cases q1
  | cons b bs =>
    have e01 : PyData.tuple [.int 0, .int 1] = eP (0, 1) := rfl
    have i0 : pIx2 (eT (b :: bs)) (.int 0) = some (.val (eB b)) := ix_eT (b :: bs) (i := 0) (by simp)
    have hlb := (q3 b (by simp)).1
    have hnb := (q3 b (by simp)).2
    have a2 : pAdd (eB b) (.tuple [.tuple [.int 0, .int 1]]) = some (.val (eB (b ++ [(0, 1)]))) := by
      have := pAdd_tt (b.map eP) [eP (0, 1)] (by simp; omega)
      unfold eB
      rw [e01, this, List.map_append]
      rfl
    have n01 : near (0, 1) := by unfold near; simp
    have c2 : pSl none (some 2) (eB b) = some (.val (eB (b.take 2))) := by
      have := sl_to (b.take 2) (b.drop 2) 2 (by simp; omega)
      rw [List.take_append_drop] at this
      exact this
    rcases hn with rfl | rfl
    · have hr : pRep (.tuple [.tuple [.int 0, .int 1]]) (.int (3 - ((2 : Nat) : Int))) = some (.val (.tuple [.tuple [.int 0, .int 1]])) := rfl
      have ht : b.take 2 = b := List.take_of_length_le (by omega)
      refine ⟨eT [b ++ [(0, 1)], b ++ [(0, 1)]], ?_, ?_⟩
      · refine nt_adj _ [] [] (b ++ [(0, 1)]) (b ++ [(0, 1)]) rfl (ltB_irr _) (by simp) fun c hc => ?_
        simp at hc
        rw [hc]
        refine near_boxB (by simp [hlb]) fun p hp => ?_
        rcases List.mem_append.mp hp with hp | hp
        · exact hnb p hp
        · simp at hp
          rw [hp]; exact n01
      · have a3 := pAdd_ll bads [eT [b ++ [(0, 1)], b ++ [(0, 1)]]] (by simp; omega)
        have et : PyData.tuple [eB (b ++ [(0, 1)]), eB (b ++ [(0, 1)])] = eT [b ++ [(0, 1)], b ++ [(0, 1)]] := rfl
        rw [ht] at c2
        unfold a24
        simp only [mSet_ap, sOp2_ap, ph1_nm, ph2_nm, List.getElem?_cons_zero, List.getElem?_cons_succ, Res.bind_ok, ph1_ex, ph2_ex, sLst_ap, aC_ap, sTup_ap, sSl_ap, bd_no, bd_ex, sC_ap, intD_i, frz_val, frz_lst, Option.bind_some, i0, Res.ofO_some, c2, aN_ap, List.length_cons, List.length_nil, Nat.zero_add, Nat.reduceAdd, if_pos z1, if_pos z2, pSub_int, hr, a2, et, a3, Res.out_ok, List.set]
    · have hr : pRep (.tuple [.tuple [.int 0, .int 1]]) (.int (3 - ((3 : Nat) : Int))) = some (.val (.tuple [])) := rfl
      have a1 : pAdd (eB (b.take 2)) (.tuple []) = some (.val (eB (b.take 2))) := by
        have := pAdd_tt ((b.take 2).map eP) [] (by simp; omega)
        rw [List.append_nil] at this
        exact this
      refine ⟨.tuple [eB (b.take 2), eB (b ++ [(0, 1)])], ?_, ?_⟩
      · have p : PyData.plainAll [eB (b.take 2), eB (b ++ [(0, 1)])] = true := by simp [plain_eB]
        refine ⟨by rw [plain_tuple]; exact p, is_thing_bad _ p (by simp) (by simp) ?_⟩
        have : boxB (eB (b ++ [(0, 1)])) = false := by simp [eB, boxB, hlb]
        simp [this]
      · have a3 := pAdd_ll bads [.tuple [eB (b.take 2), eB (b ++ [(0, 1)])]] (by simp; omega)
        unfold a24
        simp only [mSet_ap, sOp2_ap, ph1_nm, ph2_nm, List.getElem?_cons_zero, List.getElem?_cons_succ, Res.bind_ok, ph1_ex, ph2_ex, sLst_ap, aC_ap, sTup_ap, sSl_ap, bd_no, bd_ex, sC_ap, intD_i, frz_val, frz_lst, Option.bind_some, i0, Res.ofO_some, c2, aN_ap, List.length_cons, List.length_nil, Nat.zero_add, Nat.reduceAdd, if_pos z1, if_pos z2, pSub_int, hr, a1, a2, a3, Res.out_ok, List.set]
theorem run25 {n : Nat} {th : List Bx} {bads : List D} (hn : n = 2 ∨ n = 3) (h : BoxesOk n th) (hl : bads.length = 7) (hb : ∀ d ∈ bads, NoThing d) : ∃ bads' : List D, bads'.length ≤ 8 ∧ (∀ d ∈ bads', NoThing d) ∧ a25 [S, x1, x2, x3, x4, x5, x6, x7, x8, x9, x10, x11, x12, x13, x14, x15, some (.val (eT th)), x17, x18, x19, x20, some (.own (.lst bads)), x22, x23, x24] = .nx [S, x1, x2, x3, x4, x5, x6, x7, x8, x9, x10, x11, x12, x13, x14, x15, some (.val (eT th)), x17, x18, x19, x20, some (.own (.lst bads')), x22, x23, x24] := by
  obtain ⟨q1, q2, q3, q4⟩ := h
  by_cases h1 : 1 < th.length
  · match th, h1 with
    | x :: y :: rest, h1 =>
      have hxy : ltB x y = true := (List.pairwise_cons.mp q4).1 y (by simp)
      have hyx : ltB y x = false := lt_asymm hxy
      have rv : pRev (eT (x :: y :: rest)) = some (.val (eT (x :: y :: rest).reverse)) := by
        show some (Sl.val (.tuple ((x :: y :: rest).map eB).reverse)) = _
        rw [← List.map_reverse]
        rfl
      have hz : bads.length < sizeLine := by rw [sizeLine_eq]; omega
      have ap : opAppend bads [eT (x :: y :: rest).reverse] = some (.none, bads ++ [eT (x :: y :: rest).reverse]) := by
        unfold opAppend
        simp only
        rw [if_pos hz]
      refine ⟨bads ++ [eT (x :: y :: rest).reverse], by simp; omega, ?_, ?_⟩
      · intro d hd
        rcases List.mem_append.mp hd with hd | hd
        · exact hb d hd
        · rw [List.mem_singleton] at hd
          rw [hd]
          refine nt_adj _ rest.reverse [] y x (by simp) hyx (by rw [List.length_reverse]; omega) fun b hb => ?_
          have hb' : b ∈ x :: y :: rest := List.mem_reverse.mp hb
          exact near_boxB (by rw [(q3 b hb').1]; exact hn) (q3 b hb').2
      · have hg : ((1 : Int) < ((x :: y :: rest).length : Nat)) := by omega
        unfold a25
        simp only [mIf_ap, bVal_ap, sOp2_ap, ph1_ex, ph2_ex, sN1_ap, ph1_nm, ph2_nm, List.getElem?_cons_zero, List.getElem?_cons_succ, Res.bind_ok, frz_val, Option.bind_some, len_eT2, Res.ofO_some, sC_ap, pGt_int, decide_eq_true hg, boolD_b, if_true, mDrop_ap, sLM_ap, aC_ap, aN_ap, sOp1_ap, rv, ap, List.set, Res.out_ok]
  · have hg : ¬ ((1 : Int) < (th.length : Nat)) := by omega
    refine ⟨bads, by omega, hb, ?_⟩
    unfold a25
    simp only [mIf_ap, bVal_ap, sOp2_ap, ph1_ex, ph2_ex, sN1_ap, ph1_nm, ph2_nm, List.getElem?_cons_zero, List.getElem?_cons_succ, Res.bind_ok, frz_val, Option.bind_some, len_eT2, Res.ofO_some, sC_ap, pGt_int, decide_eq_false hg, boolD_b, Bool.false_eq_true, if_false, mNext_ap, Res.out_ok]
theorem run26 {SY IT : Fn} {bads : List D} (hS : SayOk SY) (hl : bads.length ≤ 8) (hb : ∀ d ∈ bads, IT [d] = .ok (.val (.bool false))) : a26 SY IT [S, x1, x2, x3, x4, x5, x6, x7, x8, x9, x10, x11, x12, x13, x14, x15, x16, x17, x18, x19, x20, some (.own (.lst bads)), none, x23, x24] = .nx [S, x1, x2, x3, x4, x5, x6, x7, x8, x9, x10, x11, x12, x13, x14, x15, x16, x17, x18, x19, x20, some (.val (.list bads)), none, x23, x24] := by
  have h : (sListComp [22] ⟨(sIt (sVar 21)), (.nm 22), (bNot (bTru (.ex (sCall SY (aC (sCall IT (aC (sVar 22) aN)) (aC (sC (.bool false)) aN))))))⟩ [] (sVar 22)) [S, x1, x2, x3, x4, x5, x6, x7, x8, x9, x10, x11, x12, x13, x14, x15, x16, x17, x18, x19, x20, some (.own (.lst bads)), none, x23, x24] = .ok (.own (.lst [])) [S, x1, x2, x3, x4, x5, x6, x7, x8, x9, x10, x11, x12, x13, x14, x15, x16, x17, x18, x19, x20, some (.val (.list bads)), none, x23, x24] := by
    rw [sLC_go [S, x1, x2, x3, x4, x5, x6, x7, x8, x9, x10, x11, x12, x13, x14, x15, x16, x17, x18, x19, x20, some (.val (.list bads)), none, x23, x24] bads id (fun _ => [])]
    · simp
    · simp
    · simp
    · intro d hd
      simp [turnC, hb d hd, hS false false]
    · exact nilF _
  unfold a26
  rw [mIf_ap, bVal_ap, sNeNil h (by simp [okEq, PyData.depth, PyData.depthAll])]
  simp
end
end Sd.K04

set_option Elab.async false
set_option linter.all false
set_option maxRecDepth 100000
set_option maxHeartbeats 4000000
set_option autoImplicit false
namespace Sd.K04
open PySem PySem.Spec PyProof.Rows L2 C8 Sd PySem.W
section
variable {S x1 x2 x3 x4 x5 x6 x7 x8 x9 x10 x11 x12 x13 x14 x15 x16 x17 x18 x19 x20 x21 x22 x23 x24 : Option Sl}


theorem z5 : 5 ≤ sizeLine := sizeLine_big (by decide)
theorem z7 : 7 ≤ sizeLine := sizeLine_big (by decide)
def far (n : Nat) : List (D × Bool) := if n = 2 then [(.tuple [.int 4000, .int 4000], true), (.tuple [.int (-4000), .int (-4000)], true), (.tuple [.int 4001, .int 0], false), (.tuple [.int 0, .int 0, .int 0], false), (.list [.int 0, .int 0], false), (.tuple [.bool true, .int 0], false), (.none, false)] else [(.tuple [.int 4000, .int 4000, .int 4000], true), (.tuple [.int (-4000), .int (-4000), .int (-4000)], true), (.tuple [.int 4001, .int 0, .int 0], false), (.tuple [.int 0, .int 0, .int 0, .int 0], false), (.list [.int 0, .int 0, .int 0], false), (.tuple [.bool true, .int 0, .int 0], false), (.none, false)]
theorem bools_list : pRep (.list [.bool false]) (.int 5) = some (.own (.lst [.bool false, .bool false, .bool false, .bool false, .bool false])) := rfl
theorem bools_add : pAdd (.list [.bool true, .bool true]) (.list [.bool false, .bool false, .bool false, .bool false, .bool false]) = some (.own (.lst [.bool true, .bool true, .bool false, .bool false, .bool false, .bool false, .bool false])) := pAdd_ll _ _ (by simp)
theorem bools_ne : pNe (.list [.bool true, .bool true, .bool false, .bool false, .bool false, .bool false, .bool false]) (.list [.bool true, .bool true, .bool false, .bool false, .bool false, .bool false, .bool false]) = some (.val (.bool false)) := by
  simp [pNe, okEq, PyData.depth, PyData.depthAll, PyData.eqv, PyData.eqvAll, vB]
theorem bools_eq : pEq (.list [.bool true, .bool true, .bool false, .bool false, .bool false, .bool false, .bool false]) (.list [.bool true, .bool true, .bool false, .bool false, .bool false, .bool false, .bool false]) = some (.val (.bool true)) := by
  simp [pEq, okEq, PyData.depth, PyData.depthAll, PyData.eqv, PyData.eqvAll, vB]
theorem nums_ne : pNe (.list [.bool true, .bool true, .bool false, .bool false, .bool false]) (.list [.bool true, .bool true, .bool false, .bool false, .bool false]) = some (.val (.bool false)) := by
  simp [pNe, okEq, PyData.depth, PyData.depthAll, PyData.eqv, PyData.eqvAll, vB]
theorem run27_2 : a27 [S, x1, x2, some (.val (.int ((2 : Nat) : Int))), x4, x5, x6, x7, x8, x9, x10, x11, x12, x13, x14, x15, x16, x17, x18, x19, x20, x21, x22, x23, x24] = .nx [S, x1, x2, some (.val (.int ((2 : Nat) : Int))), x4, x5, x6, x7, x8, x9, x10, x11, x12, x13, x14, x15, x16, x17, x18, x19, x20, x21, x22, some (.own (.lst ((far 2).map Prod.fst))), x24] := by
  have r1 : ∀ d : D, pRep (.tuple [d]) (.int ((2 : Nat) : Int)) = some (.val (.tuple [d, d])) := fun d => rfl
  have r2 : ∀ d : D, pRep (.tuple [d]) (.int (((2 : Nat) : Int) - 1)) = some (.val (.tuple [d])) := fun d => rfl
  have r3 : ∀ d : D, pRep (.tuple [d]) (.int (((2 : Nat) : Int) + 1)) = some (.val (.tuple [d, d, d])) := fun d => rfl
  have r4 : ∀ d : D, pRep (.list [d]) (.int ((2 : Nat) : Int)) = some (.own (.lst [d, d])) := fun d => rfl
  have a1 : ∀ d e : D, pAdd (.tuple [d]) (.tuple [e]) = some (.val (.tuple [d, e])) := fun d e => pAdd_tt _ _ (by simp)
  unfold a27 far
  simp only [mSet_ap, sLst_ap, aC_ap, aN_ap, sOp2_ap, sOp1_ap, sTup_ap, sC_ap, ph1_nm, ph2_nm, ph1_ex, ph2_ex, List.getElem?_cons_zero, List.getElem?_cons_succ, Res.bind_ok, frz_val, frz_lst, Option.bind_some, List.length_cons, List.length_nil, Nat.zero_add, Nat.reduceAdd, if_pos z1, if_pos z7, r1, r2, r3, r4, a1, pNeg_int, pSub_int, pAdd_int, Res.ofO_some, Res.out_ok, List.set, if_true, List.map_cons, List.map_nil]
theorem run27_3 : a27 [S, x1, x2, some (.val (.int ((3 : Nat) : Int))), x4, x5, x6, x7, x8, x9, x10, x11, x12, x13, x14, x15, x16, x17, x18, x19, x20, x21, x22, x23, x24] = .nx [S, x1, x2, some (.val (.int ((3 : Nat) : Int))), x4, x5, x6, x7, x8, x9, x10, x11, x12, x13, x14, x15, x16, x17, x18, x19, x20, x21, x22, some (.own (.lst ((far 3).map Prod.fst))), x24] := by
  have r1 : ∀ d : D, pRep (.tuple [d]) (.int ((3 : Nat) : Int)) = some (.val (.tuple [d, d, d])) := fun d => rfl
  have r2 : ∀ d : D, pRep (.tuple [d]) (.int (((3 : Nat) : Int) - 1)) = some (.val (.tuple [d, d])) := fun d => rfl
  have r3 : ∀ d : D, pRep (.tuple [d]) (.int (((3 : Nat) : Int) + 1)) = some (.val (.tuple [d, d, d, d])) := fun d => rfl
  have r4 : ∀ d : D, pRep (.list [d]) (.int ((3 : Nat) : Int)) = some (.own (.lst [d, d, d])) := fun d => rfl
  have a1 : ∀ d e : D, pAdd (.tuple [d]) (.tuple [e, e]) = some (.val (.tuple [d, e, e])) := fun d e => pAdd_tt _ _ (by simp)
  have n3 : ¬ ((3 : Nat) = 2) := by decide
  unfold a27 far
  simp only [mSet_ap, sLst_ap, aC_ap, aN_ap, sOp2_ap, sOp1_ap, sTup_ap, sC_ap, ph1_nm, ph2_nm, ph1_ex, ph2_ex, List.getElem?_cons_zero, List.getElem?_cons_succ, Res.bind_ok, frz_val, frz_lst, Option.bind_some, List.length_cons, List.length_nil, Nat.zero_add, Nat.reduceAdd, if_pos z1, if_pos z7, r1, r2, r3, r4, a1, pNeg_int, pSub_int, pAdd_int, Res.ofO_some, Res.out_ok, List.set, if_neg n3, List.map_cons, List.map_nil]
theorem run27 {n : Nat} (hn : n = 2 ∨ n = 3) : a27 [S, x1, x2, some (.val (.int (n : Int))), x4, x5, x6, x7, x8, x9, x10, x11, x12, x13, x14, x15, x16, x17, x18, x19, x20, x21, x22, x23, x24] = .nx [S, x1, x2, some (.val (.int (n : Int))), x4, x5, x6, x7, x8, x9, x10, x11, x12, x13, x14, x15, x16, x17, x18, x19, x20, x21, x22, some (.own (.lst ((far n).map Prod.fst))), x24] := by
  rcases hn with rfl | rfl
  · exact run27_2
  · exact run27_3
theorem far_place {n : Nat} (hn : n = 2 ∨ n = 3) : (∀ p ∈ far n, p.1.plain = true ∧ placeB n p.1 = p.2) ∧ (far n).length = 7 ∧ ((far n).map fun p => PyData.bool p.2) = [.bool true, .bool true, .bool false, .bool false, .bool false, .bool false, .bool false] := by
  rcases hn with rfl | rfl
  · refine ⟨?_, rfl, rfl⟩
    intro p hp
    unfold far at hp
    rw [if_pos rfl] at hp
    simp only [List.mem_cons, List.not_mem_nil, or_false] at hp
    rcases hp with rfl | rfl | rfl | rfl | rfl | rfl | rfl <;> refine ⟨by simp, ?_⟩ <;> simp [placeB, numB]
  · refine ⟨?_, rfl, rfl⟩
    intro p hp
    unfold far at hp
    rw [if_neg (by decide)] at hp
    simp only [List.mem_cons, List.not_mem_nil, or_false] at hp
    rcases hp with rfl | rfl | rfl | rfl | rfl | rfl | rfl <;> refine ⟨by simp, ?_⟩ <;> simp [placeB, numB]
theorem run28 {IP : Fn} {n : Nat} (hn : n = 2 ∨ n = 3) (h : ∀ p ∈ far n, IP [p.1, .int (n : Int)] = .ok (.val (.bool p.2))) : a28 IP [S, x1, x2, some (.val (.int (n : Int))), x4, x5, x6, x7, x8, x9, x10, x11, x12, x13, x14, x15, x16, x17, x18, x19, x20, x21, none, some (.own (.lst ((far n).map Prod.fst))), x24] = .nx [S, x1, x2, some (.val (.int (n : Int))), x4, x5, x6, x7, x8, x9, x10, x11, x12, x13, x14, x15, x16, x17, x18, x19, x20, x21, none, some (.val (.list ((far n).map Prod.fst))), x24] := by
  obtain ⟨_, fl, fm⟩ := far_place hn
  have hc : (sListComp [22] ⟨(sIt (sVar 23)), (.nm 22), bYes⟩ [] (sCall IP (aC (sVar 22) (aC (sVar 3) aN)))) [S, x1, x2, some (.val (.int (n : Int))), x4, x5, x6, x7, x8, x9, x10, x11, x12, x13, x14, x15, x16, x17, x18, x19, x20, x21, none, some (.own (.lst ((far n).map Prod.fst))), x24] = .ok (.own (.lst [.bool true, .bool true, .bool false, .bool false, .bool false, .bool false, .bool false])) [S, x1, x2, some (.val (.int (n : Int))), x4, x5, x6, x7, x8, x9, x10, x11, x12, x13, x14, x15, x16, x17, x18, x19, x20, x21, none, some (.val (.list ((far n).map Prod.fst))), x24] := by
    rw [sLC_go [S, x1, x2, some (.val (.int (n : Int))), x4, x5, x6, x7, x8, x9, x10, x11, x12, x13, x14, x15, x16, x17, x18, x19, x20, x21, none, some (.val (.list ((far n).map Prod.fst))), x24] (far n) Prod.fst (fun p => [PyData.bool p.2]), flatMap_one, fm]
    · simp
    · simp
    · intro p hp
      simp [turnC, h p hp]
    · rw [flatMap_one, List.length_map, fl]
      exact z7
  unfold a28
  simp only [mIf_ap, bVal_ap, sOp2_ap, ph1_ex, ph2_ex, hc, Res.bind_ok, frz_lst, frz_val, sLst_ap, aC_ap, aN_ap, sC_ap, List.length_cons, List.length_nil, Nat.zero_add, Nat.reduceAdd, if_pos z1, if_pos z2, Option.bind_some, bools_list, Res.ofO_some, bools_add, bools_ne, boolD_b, Bool.false_eq_true, if_false, Res.out_ok, mNext_ap]
def eight : List Bx := (List.range 8).map fun (k : Nat) => [((k : Int), (k : Int) + 1), (0, 1)]
theorem runE1 (k8 : keepV x8 = x8) : e1 [S, x1, x2, x3, x4, x5, x6, x7, x8, x9, x10, x11, x12, x13, x14, x15, x16, x17, x18, x19, x20, x21, x22, x23, x24] = .nx [S, x1, x2, x3, x4, x5, x6, x7, x8, x9, x10, x11, x12, x13, x14, x15, x16, x17, x18, x19, x20, x21, x22, x23, some (.val (eT eight))] := by
  have hc : (sListComp [8] ⟨(sRange1 (aC (sC (.int 8)) aN)), (.nm 8), bYes⟩ [] (sTup (aC (sTup (aC (sVar 8) (aC (sOp2 pAdd (.nm 8) (.ex (sC (.int 1)))) aN))) (aC (sTup (aC (sC (.int 0)) (aC (sC (.int 1)) aN))) aN)))) [S, x1, x2, x3, x4, x5, x6, x7, x8, x9, x10, x11, x12, x13, x14, x15, x16, x17, x18, x19, x20, x21, x22, x23, x24] = .ok (.own (.lst ((List.range 8).map fun (k : Nat) => eB [((k : Int), (k : Int) + 1), (0, 1)]))) [S, x1, x2, x3, x4, x5, x6, x7, x8, x9, x10, x11, x12, x13, x14, x15, x16, x17, x18, x19, x20, x21, x22, x23, x24] := by
    refine sLC_one (List.range 8) eN _ ?_ ?_ ?_ ?_
    · exact sRange1_s (by simp) (by omega)
    · simp [k8]
    · intro k _
      simp [turnC, eN, z2, eB, eP]
    · exact sizeLine_big (by simp)
  unfold e1
  simp only [mSet_ap, sN1_ap, ph1_ex, ph2_ex, hc, Res.bind_ok, frz_lst, Option.bind_some, pTuple_list, Res.ofO_some, Res.out_ok, List.set]
  simp [eight, eT]
theorem eight_thing : F_is_thing [eT eight] = .ok (.val (.bool true)) := by
  have hb : (eight.map eB).all boxB = true := by decide +kernel
  have e : eight = [(0, 1), (0, 1)] :: eight.tail := rfl
  rw [e] at hb ⊢
  rw [is_thing_T _ _ (by decide) hb]
  have q : (([(0, 1), (0, 1)] :: eight.tail).all (fun c => c.length == ([(0, 1), (0, 1)] : Bx).length) && (([(0, 1), (0, 1)] :: eight.tail).zip eight.tail).all fun p => ltB p.1 p.2) = true := by decide +kernel
  rw [q]
theorem nine_thing : F_is_thing [eT (eight ++ [[(8, 9), (0, 1)]])] = .ok (.val (.bool false)) := is_thing_len _ (plain_boxes _) (by decide)
theorem runE2 {IT IN : Fn} (h1 : IT [eT eight] = .ok (.val (.bool true))) (h2 : IT [eT (eight ++ [[(8, 9), (0, 1)]])] = .ok (.val (.bool false))) (h3 : ∀ p ∈ ([(.int 0, true), (.int 5, true), (.int 6, false), (.bool true, false), (.none, false)] : List (D × Bool)), IN [p.1, .int 0, .int 5] = .ok (.val (.bool p.2))) : e2 IT IN [S, x1, x2, x3, x4, x5, x6, x7, x8, x9, x10, x11, x12, x13, x14, x15, x16, x17, x18, x19, x20, x21, none, x23, some (.val (eT eight))] = .nx [S, x1, x2, x3, x4, x5, x6, x7, x8, x9, x10, x11, x12, x13, x14, x15, x16, x17, x18, x19, x20, x21, none, x23, some (.val (eT eight))] := by
  have hc : (sListComp [22] ⟨(sIt (sLst (aC (sC (.int 0)) (aC (sC (.int 5)) (aC (sC (.int 6)) (aC (sC (.bool true)) (aC (sC .none) aN))))))), (.nm 22), bYes⟩ [] (sCall IN (aC (sVar 22) (aC (sC (.int 0)) (aC (sC (.int 5)) aN))))) [S, x1, x2, x3, x4, x5, x6, x7, x8, x9, x10, x11, x12, x13, x14, x15, x16, x17, x18, x19, x20, x21, none, x23, some (.val (eT eight))] = .ok (.own (.lst (([(.int 0, true), (.int 5, true), (.int 6, false), (.bool true, false), (.none, false)] : List (D × Bool)).map fun p => PyData.bool p.2))) [S, x1, x2, x3, x4, x5, x6, x7, x8, x9, x10, x11, x12, x13, x14, x15, x16, x17, x18, x19, x20, x21, none, x23, some (.val (eT eight))] := by
    refine sLC_one ([(.int 0, true), (.int 5, true), (.int 6, false), (.bool true, false), (.none, false)] : List (D × Bool)) Prod.fst _ ?_ ?_ ?_ ?_
    · simp [z5]
    · simp
    · intro p hp
      simp [turnC, h3 p hp]
    · exact z5
  have ad : pAdd (eT eight) (.tuple [.tuple [.tuple [.int 8, .int 9], .tuple [.int 0, .int 1]]]) = some (.val (eT (eight ++ [[(8, 9), (0, 1)]]))) := eT_app eight [[(8, 9), (0, 1)]] (by decide)
  have i1 : pIsNot (.bool true) (.bool true) = some (.val (.bool false)) := rfl
  have i2 : pIsNot (.bool false) (.bool false) = some (.val (.bool false)) := rfl
  simp only [List.map_cons, List.map_nil] at hc
  unfold e2
  simp only [mIf_ap, bOr_ap, bVal_ap, sOp2_ap, ph1_ex, ph2_ex, ph1_nm, ph2_nm, sCall_ap, aC_ap, aN_ap, sVar_ap, sC_ap, sTup_ap, sLst_ap, List.getElem?_cons_zero, List.getElem?_cons_succ, Res.bind_ok, frz_val, frz_lst, Option.bind_some, h1, i1, Res.ofO_some, boolD_b, Bool.false_eq_true, if_false, List.length_cons, List.length_nil, Nat.zero_add, Nat.reduceAdd, if_pos z1, if_pos z2, if_pos z5, ad, h2, i2, hc, nums_ne, Res.out_ok, mNext_ap]
theorem runE3 {IW : Fn} (h3 : ∀ p ∈ ([(.str "a", true), (.str "abcdef", true), (.str "", false), (.str "abcdefg", false), (.str "A", false), (.none, false), (.str "a b", false)] : List (D × Bool)), IW [p.1] = .ok (.val (.bool p.2))) : e3 IW [S, x1, x2, x3, x4, x5, x6, x7, x8, x9, x10, x11, x12, x13, x14, x15, x16, x17, x18, x19, x20, x21, none, x23, x24] = .rt (.val (.bool true)) [S, x1, x2, x3, x4, x5, x6, x7, x8, x9, x10, x11, x12, x13, x14, x15, x16, x17, x18, x19, x20, x21, none, x23, x24] := by
  have hc : (sListComp [22] ⟨(sIt (sLst (aC (sC (.str "a")) (aC (sC (.str "abcdef")) (aC (sC (.str "")) (aC (sC (.str "abcdefg")) (aC (sC (.str "A")) (aC (sC .none) (aC (sC (.str "a b")) aN))))))))), (.nm 22), bYes⟩ [] (sCall IW (aC (sVar 22) aN))) [S, x1, x2, x3, x4, x5, x6, x7, x8, x9, x10, x11, x12, x13, x14, x15, x16, x17, x18, x19, x20, x21, none, x23, x24] = .ok (.own (.lst (([(.str "a", true), (.str "abcdef", true), (.str "", false), (.str "abcdefg", false), (.str "A", false), (.none, false), (.str "a b", false)] : List (D × Bool)).map fun p => PyData.bool p.2))) [S, x1, x2, x3, x4, x5, x6, x7, x8, x9, x10, x11, x12, x13, x14, x15, x16, x17, x18, x19, x20, x21, none, x23, x24] := by
    refine sLC_one ([(.str "a", true), (.str "abcdef", true), (.str "", false), (.str "abcdefg", false), (.str "A", false), (.none, false), (.str "a b", false)] : List (D × Bool)) Prod.fst _ ?_ ?_ ?_ ?_
    · simp [z7]
    · simp
    · intro p hp
      simp [turnC, h3 p hp]
    · exact z7
  simp only [List.map_cons, List.map_nil] at hc
  unfold e3
  simp only [mRet_ap, sOp2_ap, ph1_ex, ph2_ex, hc, Res.bind_ok, frz_val, frz_lst, Option.bind_some, sLst_ap, aC_ap, aN_ap, sC_ap, List.length_cons, List.length_nil, Nat.zero_add, Nat.reduceAdd, if_pos z1, if_pos z2, bools_list, bools_add, bools_eq, Res.ofO_some, Res.out_ok]
end
end Sd.K04

set_option Elab.async false
set_option linter.all false
set_option maxRecDepth 100000
set_option maxHeartbeats 4000000
set_option autoImplicit false
namespace Sd.K04
open PySem PySem.Spec PyProof.Rows L2 C8 Sd PySem.W


def St (S : Option Sl) (ρ : Ev) : Prop := ∃ (ds : List Int) (x2 x3 x4 x5 x6 x7 x8 x9 x10 x11 x12 x16 x17 x19 x20 x21 x23 x24 : Option Sl), keepV x6 = x6 ∧ keepV x8 = x8 ∧ ρ = [S, some (.own (oI ds)), x2, x3, x4, x5, x6, x7, x8, x9, x10, x11, x12, none, none, none, x16, x17, none, x19, x20, x21, none, x23, x24]
theorem chain_ok : ∀ L : List Bx, (L.Pairwise fun a b => ltB a b = true) → ((L.zip L.tail).all fun p => ltB p.1 p.2) = true
  | [], _ => rfl
  | [x], _ => rfl
  | x :: y :: r, h => by
    have h1 := List.pairwise_cons.mp h
    have ih := chain_ok (y :: r) h1.2
    rw [List.tail_cons] at ih ⊢
    rw [List.zip_cons_cons, List.all_cons, ih, Bool.and_true]
    exact h1.1 y (by simp)
theorem thing_true {n : Nat} {th : List Bx} (hn : n = 2 ∨ n = 3) (h : BoxesOk n th) : F_is_thing [eT th] = .ok (.val (.bool true)) := by
  obtain ⟨q1, q2, q3, q4⟩ := h
  cases th with
  | nil => cases q1
  | cons b bs =>
    rw [is_thing_T b bs (by omega) (by
      rw [List.all_map, List.all_eq_true]
      intro c hc
      exact near_boxB (by rw [(q3 c hc).1]; exact hn) (q3 c hc).2)]
    have c1 := chain_ok _ q4
    rw [List.tail_cons] at c1
    have c2 : ((b :: bs).all fun c => c.length == b.length) = true := by
      rw [List.all_eq_true]
      intro c hc
      rw [(q3 c hc).1, (q3 b (by simp)).1]
      simp
    rw [c1, c2]
    rfl
theorem units_are (n : Nat) (hn : n = 2 ∨ n = 3) : UnitsOk F__law_units n := fun d bs hit hm hz => units_ok hit (fun b hb => (mid_good (hm b hb)).1) (fun b hb => (mid_good (hm b hb)).2) (by omega) hz
theorem vols_are (n : Nat) (hn : n = 2 ∨ n = 3) : VolOk F_volume n := fun d bs hit hm hz => volume_ok hit (fun b hb => (mid_good (hm b hb)).1) (by omega) hz
theorem rooms_are (n : Nat) (hn : n = 2 ∨ n = 3) : RoomsOk F_same_room n := fun as bs ha hb hz hl => same_room_ok (fun b h => (mid_good (ha b h)).1) (fun b h => (mid_good (hb b h)).1) (by omega) hz hl
theorem boxes_are (n : Nat) (hn : n = 2 ∨ n = 3) : BoxOk F__law_box n := fun ds => law_box_ok ds n (by omega)
theorem things_are (n : Nat) (hn : n = 2 ∨ n = 3) : ThingOk F__law_thing n := fun c h1 h2 ds => law_thing n (by omega) (by omega) c h1 h2 ds
theorem takes_are : TakeOk F__law_take := law_take
theorem says_are : SayOk F__law_says := law_says_bool
theorem turn_ok {S : Option Sl} {ρ : Ev} (d : D) (h : St S ρ) : ∃ ρ1 ρ2, assignT (.nm 2) d ρ = some ρ1 ∧ mTurn ρ1 = .nx ρ2 ∧ St S ρ2 := by
  obtain ⟨ds, x2, x3, x4, x5, x6, x7, x8, x9, x10, x11, x12, x16, x17, x19, x20, x21, x23, x24, k6, k8, rfl⟩ := h
  refine ⟨[S, some (.own (oI ds)), some (.val d), x3, x4, x5, x6, x7, x8, x9, x10, x11, x12, none, none, none, x16, x17, none, x19, x20, x21, none, x23, x24], ?_⟩
  obtain ⟨n, e1, hn, r1⟩ := run1 (S := S) (x2 := some (.val d)) (x3 := x3) (x4 := x4) (x5 := x5) (x6 := x6) (x7 := x7) (x8 := x8) (x9 := x9) (x10 := x10) (x11 := x11) (x12 := x12) (x13 := none) (x14 := none) (x15 := none) (x16 := x16) (x17 := x17) (x18 := none) (x19 := x19) (x20 := x20) (x21 := x21) (x22 := none) (x23 := x23) (x24 := x24) takes_are ds
  have hn0 : n ≤ 1000 := by omega
  obtain ⟨b, c, e2, hb, hc, r2⟩ := run2 (S := S) (x2 := some (.val d)) (x4 := x4) (x5 := x5) (x6 := x6) (x7 := x7) (x8 := x8) (x9 := x9) (x10 := x10) (x11 := x11) (x12 := x12) (x13 := none) (x14 := none) (x15 := none) (x16 := x16) (x17 := x17) (x18 := none) (x19 := x19) (x20 := x20) (x21 := x21) (x22 := none) (x23 := x23) (x24 := x24) (boxes_are n hn) e1
  obtain ⟨f, y6, e3, hf, ky6, r3⟩ := run3 (S := S) (x2 := some (.val d)) (x6 := x6) (x7 := x7) (x8 := x8) (x9 := x9) (x10 := x10) (x11 := x11) (x12 := x12) (x13 := none) (x14 := none) (x15 := none) (x16 := x16) (x17 := x17) (x18 := none) (x19 := x19) (x20 := x20) (x21 := x21) (x22 := none) (x23 := x23) (x24 := x24) takes_are hn hb hc k6 e2
  have mb := near_midB hb
  have gb := (mid_good mb).1
  have gf := (mid_good hf).1
  have lbf : b.length = f.length := hb.1.trans hf.1.symm
  have hb23 : b.length = 2 ∨ b.length = 3 := by rw [hb.1]; exact hn
  have bB := is_box_D (eB b) (plain_eB b)
  rw [near_boxB hb23 hb.2] at bB
  have bt := fun ds => law_bent b hb23 gb.1 ds
  obtain ⟨e4, r4⟩ := run4 (S := S) (x2 := some (.val d)) (x3 := some (.val (.int (n : Int)))) (x5 := some (.val (eB f))) (x6 := y6) (x7 := x7) (x8 := x8) (x9 := x9) (x10 := x10) (x11 := x11) (x12 := x12) (x13 := none) (x14 := none) (x15 := none) (x16 := x16) (x17 := x17) (x18 := none) (x19 := x19) (x20 := x20) (x21 := x21) (x22 := none) (x23 := x23) (x24 := x24) says_are bB (fun ds => by
    obtain ⟨x, es, q1, q2, q3⟩ := bt ds
    refine ⟨x, es, ?_, q3⟩
    have := is_box_D x q1
    rw [q2] at this
    exact this) e3
  have r5 := run5 (S := S) (x1 := some (.own (oI e4))) (x2 := some (.val d)) (x6 := y6) (x7 := x7) (x8 := x8) (x9 := x9) (x10 := x10) (x11 := x11) (x12 := x12) (x13 := none) (x14 := none) (x15 := none) (x16 := x16) (x17 := x17) (x18 := none) (x19 := x19) (x20 := x20) (x21 := x21) (x22 := none) (x23 := x23) (x24 := x24) hn0 hb.1 hf.1 k8
  have r6 := run6 (S := S) (x1 := some (.own (oI e4))) (x2 := some (.val d)) (x3 := some (.val (.int (n : Int)))) (x6 := y6) (x7 := some (.val (eB (sharedB b f)))) (x8 := x8) (x9 := x9) (x10 := x10) (x11 := x11) (x12 := x12) (x13 := none) (x14 := none) (x15 := none) (x16 := x16) (x17 := x17) (x18 := none) (x19 := x19) (x20 := x20) (x21 := x21) (x22 := none) (x23 := x23) (x24 := x24) (law_clash_ok b f lbf (by omega))
  have c2 := clash_ok f b
  rw [clashB_comm f b] at c2
  have lsh : (sharedB b f).length ≤ 1000 := by simp [sharedB]; omega
  have r7 := run7 (S := S) (x1 := some (.own (oI e4))) (x2 := some (.val d)) (x3 := some (.val (.int (n : Int)))) (x6 := y6) (x8 := x8) (x10 := x10) (x11 := x11) (x12 := x12) (x13 := none) (x14 := none) (x15 := none) (x16 := x16) (x17 := x17) (x18 := none) (x19 := x19) (x20 := x20) (x21 := x21) (x22 := none) (x23 := x23) (x24 := x24) says_are (clash_ok b f) c2 (shared_ok b f (by omega)) (alike_B _ lsh) alike_none
  obtain ⟨v, e8, lv, bv, r8⟩ := run8 (S := S) (x2 := some (.val d)) (x4 := some (.val (eB b))) (x5 := some (.val (eB f))) (x6 := y6) (x7 := some (.val (eB (sharedB b f)))) (x8 := x8) (x9 := some (.val (.bool (clashB b f)))) (x10 := x10) (x11 := x11) (x12 := x12) (x13 := none) (x14 := none) (x15 := none) (x16 := x16) (x17 := x17) (x18 := none) (x19 := x19) (x20 := x20) (x21 := x21) (x22 := none) (x23 := x23) (x24 := x24) (n := n) takes_are hn0 ky6 e4
  have r9 := run9 (S := S) (x1 := some (.own (oI e8))) (x2 := some (.val d)) (x5 := some (.val (eB f))) (x6 := y6) (x7 := some (.val (eB (sharedB b f)))) (x8 := x8) (x9 := some (.val (.bool (clashB b f)))) (x11 := x11) (x12 := x12) (x13 := none) (x14 := none) (x15 := none) (x16 := x16) (x17 := x17) (x18 := none) (x19 := x19) (x20 := x20) (x21 := x21) (x22 := none) (x23 := x23) (x24 := x24) hn0 hb.1 lv k8
  have lsf : (shiftedB b v).length ≤ 1000 := by simp [shiftedB]; omega
  have r10 := run10 (S := S) (x1 := some (.own (oI e8))) (x2 := some (.val d)) (x3 := some (.val (.int (n : Int)))) (x5 := some (.val (eB f))) (x6 := y6) (x7 := some (.val (eB (sharedB b f)))) (x8 := x8) (x9 := some (.val (.bool (clashB b f)))) (x12 := x12) (x13 := none) (x14 := none) (x15 := none) (x16 := x16) (x17 := x17) (x18 := none) (x19 := x19) (x20 := x20) (x21 := x21) (x22 := none) (x23 := x23) (x24 := x24) says_are hn mb (shifted_ok b v (by omega)) (alike_B _ lsf) (holds_ok b v) (law_within_ok b v (by omega) (by omega)) (room_ok b (room_small gb (by have := cells_mid hn mb; omega)) gb.1) (units_are n hn)
  have r11 := run11 (S := S) (x1 := some (.own (oI e8))) (x2 := some (.val d)) (x3 := some (.val (.int (n : Int)))) (x6 := y6) (x7 := some (.val (eB (sharedB b f)))) (x8 := x8) (x9 := some (.val (.bool (clashB b f)))) (x10 := some (.val (eV v))) (x11 := some (.val (eB (shiftedB b v)))) (x12 := x12) (x13 := none) (x14 := none) (x15 := none) (x16 := x16) (x17 := x17) (x18 := none) (x19 := x19) (x20 := x20) (x21 := x21) (x22 := none) (x23 := x23) (x24 := x24) (woB_run gb gf hn0)
  have r12 := run12 (S := S) (x1 := some (.own (oI e8))) (x2 := some (.val d)) (x3 := some (.val (.int (n : Int)))) (x6 := y6) (x7 := some (.val (eB (sharedB b f)))) (x8 := x8) (x9 := some (.val (.bool (clashB b f)))) (x10 := some (.val (eV v))) (x11 := some (.val (eB (shiftedB b v)))) (x15 := none) (x16 := x16) (x17 := x17) (x18 := none) (x19 := x19) (x20 := x20) (x21 := x21) (x22 := none) (x23 := x23) (x24 := x24) hn mb hf (fun p q hp hq => law_clash_ok p q (hp.trans hq.symm) (by omega)) k8
  have r13 := run13 (S := S) (x1 := some (.own (oI e8))) (x2 := some (.val d)) (x3 := some (.val (.int (n : Int)))) (x6 := y6) (x7 := some (.val (eB (sharedB b f)))) (x8 := x8) (x9 := some (.val (.bool (clashB b f)))) (x10 := some (.val (eV v))) (x11 := some (.val (eB (shiftedB b v)))) (x13 := none) (x14 := none) (x16 := x16) (x17 := x17) (x18 := none) (x19 := x19) (x20 := x20) (x21 := x21) (x22 := none) (x23 := x23) (x24 := x24) hn mb hf (units_are n hn)
  obtain ⟨th, mo, e14, ht, hm, r14⟩ := run14 (S := S) (x2 := some (.val d)) (x4 := some (.val (eB b))) (x5 := some (.val (eB f))) (x6 := y6) (x7 := some (.val (eB (sharedB b f)))) (x8 := x8) (x9 := some (.val (.bool (clashB b f)))) (x10 := some (.val (eV v))) (x11 := some (.val (eB (shiftedB b v)))) (x12 := some (.val (.list ((woB b f).map eB)))) (x13 := none) (x14 := none) (x15 := none) (x16 := x16) (x17 := x17) (x18 := none) (x19 := x19) (x20 := x20) (x21 := x21) (x22 := none) (x23 := x23) (x24 := x24) (things_are n hn) e8
  have mt : ∀ b ∈ th, midB n b := fun b hb => near_midB (ht.2.2.1 b hb)
  have mm : ∀ b ∈ mo, midB n b := fun b hb => near_midB (hm.2.2.1 b hb)
  have hdim : F_dimension [eT th] = .ok (.val (.int (n : Int))) := by
    cases th with
    | nil => cases ht.1
    | cons x xs => rw [dimension_ok x xs, (mt x (by simp)).1]
  have r15 := run15 (S := S) (x1 := some (.own (oI e14))) (x2 := some (.val d)) (x4 := some (.val (eB b))) (x5 := some (.val (eB f))) (x6 := y6) (x7 := some (.val (eB (sharedB b f)))) (x8 := x8) (x9 := some (.val (.bool (clashB b f)))) (x11 := some (.val (eB (shiftedB b v)))) (x12 := some (.val (.list ((woB b f).map eB)))) (x14 := none) (x15 := none) (x17 := some (.val (eT mo))) (x18 := none) (x19 := x19) (x20 := x20) (x21 := x21) (x22 := none) (x23 := x23) (x24 := x24) (v := v) says_are (by omega) (thing_true hn ht) hdim (at_ok th v (by omega) fun x hx => by have := (mt x hx).1; omega) (fun x hx => shifted_ok x v (by have := (mt x hx).1; omega))
    (alike_T (th.map fun b => shiftedB b v) (by simp; omega) fun x hx => by
      obtain ⟨y, hy, rfl⟩ := List.mem_map.mp hx
      have := (mt y hy).1
      simp [shiftedB]
      omega)
  have r16 := run16 (S := S) (x1 := some (.own (oI e14))) (x2 := some (.val d)) (x3 := some (.val (.int (n : Int)))) (x4 := some (.val (eB b))) (x5 := some (.val (eB f))) (x6 := y6) (x7 := some (.val (eB (sharedB b f)))) (x8 := x8) (x9 := some (.val (.bool (clashB b f)))) (x10 := some (.val (eV v))) (x11 := some (.val (eB (shiftedB b v)))) (x12 := some (.val (.list ((woB b f).map eB)))) (x14 := none) (x15 := none) (x19 := x19) (x20 := x20) (x21 := x21) (x22 := none) (x23 := x23) (x24 := x24) says_are (by omega) (by omega) (fun x hx => (mt x hx).1) (fun x hx => (mm x hx).1) (clashes_ok th mo) (fun p q hp hq => law_clash_ok p q (hp.trans hq.symm) (by omega))
  have r17 := run17 (S := S) (x1 := some (.own (oI e14))) (x2 := some (.val d)) (x3 := some (.val (.int (n : Int)))) (x4 := some (.val (eB b))) (x5 := some (.val (eB f))) (x6 := y6) (x7 := some (.val (eB (sharedB b f)))) (x8 := x8) (x9 := some (.val (.bool (clashB b f)))) (x10 := some (.val (eV v))) (x11 := some (.val (eB (shiftedB b v)))) (x12 := some (.val (.list ((woB b f).map eB)))) (x13 := none) (x14 := none) (x15 := none) (x18 := none) (x19 := x19) (x20 := x20) (x21 := x21) (x22 := none) (x23 := x23) (x24 := x24) hn ht.2.1 hm.2.1 mt mm (vols_are n hn) (units_are n hn)
  have r18 := run18 (S := S) (x1 := some (.own (oI e14))) (x2 := some (.val d)) (x3 := some (.val (.int (n : Int)))) (x4 := some (.val (eB b))) (x5 := some (.val (eB f))) (x6 := y6) (x7 := some (.val (eB (sharedB b f)))) (x8 := x8) (x9 := some (.val (.bool (clashB b f)))) (x10 := some (.val (eV v))) (x11 := some (.val (eB (shiftedB b v)))) (x13 := none) (x14 := none) (x15 := none) (x16 := some (.val (eT th))) (x18 := none) (x19 := x19) (x20 := x20) (x21 := x21) (x22 := none) (x23 := x23) (x24 := x24) (n := n) (b := b) (c := f) (mo := mo) (woB_few hn mb gf).1 hm.2.1
  obtain ⟨U, V, hU, hV, r19⟩ := run19 (S := S) (x1 := some (.own (oI e14))) (x2 := some (.val d)) (x3 := some (.val (.int (n : Int)))) (x6 := y6) (x7 := some (.val (eB (sharedB b f)))) (x8 := x8) (x9 := some (.val (.bool (clashB b f)))) (x10 := some (.val (eV v))) (x11 := some (.val (eB (shiftedB b v)))) (x12 := some (.val (.list ((woB b f).map eB)))) (x13 := none) (x14 := none) (x15 := none) (x16 := some (.val (eT th))) (x18 := none) (x20 := x20) (x21 := x21) (x22 := none) (x23 := x23) (x24 := x24) hn mb hf hm.2.1 mm (units_are n hn)
  have r20 := run20 (S := S) (x1 := some (.own (oI e14))) (x2 := some (.val d)) (x3 := some (.val (.int (n : Int)))) (x6 := y6) (x7 := some (.val (eB (sharedB b f)))) (x8 := x8) (x9 := some (.val (.bool (clashB b f)))) (x10 := some (.val (eV v))) (x11 := some (.val (eB (shiftedB b v)))) (x12 := some (.val (.list ((woB b f).map eB)))) (x13 := none) (x14 := none) (x15 := none) (x18 := none) (x21 := x21) (x22 := none) (x23 := x23) (x24 := x24) says_are hn mb hf ht.2.1 hm.2.1 mt mm (units_are n hn) (rooms_are n hn) hU hV
  have r21 := run21 (S := S) (x1 := some (.own (oI e14))) (x2 := some (.val d)) (x4 := some (.val (eB b))) (x5 := some (.val (eB f))) (x6 := y6) (x7 := some (.val (eB (sharedB b f)))) (x8 := x8) (x9 := some (.val (.bool (clashB b f)))) (x10 := some (.val (eV v))) (x11 := some (.val (eB (shiftedB b v)))) (x12 := some (.val (.list ((woB b f).map eB)))) (x14 := none) (x15 := none) (x17 := some (.val (eT mo))) (x18 := none) (x19 := some (.val (eT (woB b f ++ mo)))) (x20 := some (.val (.bool (sameB U V)))) (x21 := x21) (x22 := none) (x23 := x23) (x24 := x24) hn0 ht.1 (by omega) (fun x hx => (mt x hx).1) k8 (hull_ok th n ht.1 (by omega) hn0 fun x hx => (mt x hx).1) (alike_B (hullB th n) (by simp [hullB]; omega))
  obtain ⟨k, e22, hk, r22⟩ := run22 (S := S) (x2 := some (.val d)) (x3 := some (.val (.int (n : Int)))) (x4 := some (.val (eB b))) (x5 := some (.val (eB f))) (x6 := y6) (x7 := some (.val (eB (sharedB b f)))) (x8 := x8) (x9 := some (.val (.bool (clashB b f)))) (x10 := some (.val (eV v))) (x11 := some (.val (eB (shiftedB b v)))) (x12 := some (.val (.list ((woB b f).map eB)))) (x13 := none) (x14 := none) (x15 := none) (x17 := some (.val (eT mo))) (x18 := none) (x19 := some (.val (eT (woB b f ++ mo)))) (x20 := some (.val (.bool (sameB U V)))) (x21 := x21) (x22 := none) (x23 := x23) (x24 := x24) takes_are ht e14
  obtain ⟨bads, e23, lb, nb, r23⟩ := run23 (S := S) (x2 := some (.val d)) (x3 := some (.val (.int (n : Int)))) (x4 := some (.val (eB b))) (x5 := some (.val (eB f))) (x6 := y6) (x7 := some (.val (eB (sharedB b f)))) (x9 := some (.val (.bool (clashB b f)))) (x10 := some (.val (eV v))) (x11 := some (.val (eB (shiftedB b v)))) (x12 := some (.val (.list ((woB b f).map eB)))) (x13 := none) (x14 := none) (x15 := none) (x17 := some (.val (eT mo))) (x18 := none) (x19 := some (.val (eT (woB b f ++ mo)))) (x20 := some (.val (.bool (sameB U V)))) (x21 := x21) (x22 := none) (x23 := x23) (x24 := x24) hn ht hk (fun x hx ds => law_bent x (by rw [(mt x hx).1]; exact hn) (mid_good (mt x hx)).1.1 ds) e22
  obtain ⟨bad, nb2, r24⟩ := run24 (S := S) (x1 := some (.own (oI e23))) (x2 := some (.val d)) (x4 := some (.val (eB b))) (x5 := some (.val (eB f))) (x6 := y6) (x7 := some (.val (eB (sharedB b f)))) (x8 := some (.val (.int (k : Int)))) (x9 := some (.val (.bool (clashB b f)))) (x10 := some (.val (eV v))) (x11 := some (.val (eB (shiftedB b v)))) (x12 := some (.val (.list ((woB b f).map eB)))) (x13 := none) (x14 := none) (x15 := none) (x17 := some (.val (eT mo))) (x18 := none) (x19 := some (.val (eT (woB b f ++ mo)))) (x20 := some (.val (.bool (sameB U V)))) (x22 := none) (x23 := x23) (x24 := x24) hn ht lb nb
  obtain ⟨bads', lb', nb', r25⟩ := run25 (S := S) (x1 := some (.own (oI e23))) (x2 := some (.val d)) (x3 := some (.val (.int (n : Int)))) (x4 := some (.val (eB b))) (x5 := some (.val (eB f))) (x6 := y6) (x7 := some (.val (eB (sharedB b f)))) (x8 := some (.val (.int (k : Int)))) (x9 := some (.val (.bool (clashB b f)))) (x10 := some (.val (eV v))) (x11 := some (.val (eB (shiftedB b v)))) (x12 := some (.val (.list ((woB b f).map eB)))) (x13 := none) (x14 := none) (x15 := none) (x17 := some (.val (eT mo))) (x18 := none) (x19 := some (.val (eT (woB b f ++ mo)))) (x20 := some (.val (.bool (sameB U V)))) (x22 := none) (x23 := x23) (x24 := x24) hn ht (bads := bads ++ [bad]) (by simp; omega) fun x hx => by
    rcases List.mem_append.mp hx with hx | hx
    · exact nb x hx
    · rw [List.mem_singleton] at hx
      rw [hx]; exact nb2
  have r26 := run26 (S := S) (x1 := some (.own (oI e23))) (x2 := some (.val d)) (x3 := some (.val (.int (n : Int)))) (x4 := some (.val (eB b))) (x5 := some (.val (eB f))) (x6 := y6) (x7 := some (.val (eB (sharedB b f)))) (x8 := some (.val (.int (k : Int)))) (x9 := some (.val (.bool (clashB b f)))) (x10 := some (.val (eV v))) (x11 := some (.val (eB (shiftedB b v)))) (x12 := some (.val (.list ((woB b f).map eB)))) (x13 := none) (x14 := none) (x15 := none) (x16 := some (.val (eT th))) (x17 := some (.val (eT mo))) (x18 := none) (x19 := some (.val (eT (woB b f ++ mo)))) (x20 := some (.val (.bool (sameB U V)))) (x23 := x23) (x24 := x24) says_are lb' fun x hx => (nb' x hx).2
  have r27 := run27 (S := S) (x1 := some (.own (oI e23))) (x2 := some (.val d)) (x4 := some (.val (eB b))) (x5 := some (.val (eB f))) (x6 := y6) (x7 := some (.val (eB (sharedB b f)))) (x8 := some (.val (.int (k : Int)))) (x9 := some (.val (.bool (clashB b f)))) (x10 := some (.val (eV v))) (x11 := some (.val (eB (shiftedB b v)))) (x12 := some (.val (.list ((woB b f).map eB)))) (x13 := none) (x14 := none) (x15 := none) (x16 := some (.val (eT th))) (x17 := some (.val (eT mo))) (x18 := none) (x19 := some (.val (eT (woB b f ++ mo)))) (x20 := some (.val (.bool (sameB U V)))) (x21 := some (.val (.list bads'))) (x22 := none) (x23 := x23) (x24 := x24) hn
  have r28 := run28 (S := S) (x1 := some (.own (oI e23))) (x2 := some (.val d)) (x4 := some (.val (eB b))) (x5 := some (.val (eB f))) (x6 := y6) (x7 := some (.val (eB (sharedB b f)))) (x8 := some (.val (.int (k : Int)))) (x9 := some (.val (.bool (clashB b f)))) (x10 := some (.val (eV v))) (x11 := some (.val (eB (shiftedB b v)))) (x12 := some (.val (.list ((woB b f).map eB)))) (x13 := none) (x14 := none) (x15 := none) (x16 := some (.val (eT th))) (x17 := some (.val (eT mo))) (x18 := none) (x19 := some (.val (eT (woB b f ++ mo)))) (x20 := some (.val (.bool (sameB U V)))) (x21 := some (.val (.list bads'))) (x24 := x24) (IP := F_is_place) hn fun p hp => by
    have q := (far_place hn).1 p hp
    rw [is_place_D p.1 n q.1, q.2]
  refine ⟨[S, some (.own (oI e23)), some (.val d), some (.val (.int (n : Int))), some (.val (eB b)), some (.val (eB f)), y6, some (.val (eB (sharedB b f))), some (.val (.int (k : Int))), some (.val (.bool (clashB b f))), some (.val (eV v)), some (.val (eB (shiftedB b v))), some (.val (.list ((woB b f).map eB))), none, none, none, some (.val (eT th)), some (.val (eT mo)), none, some (.val (eT (woB b f ++ mo))), some (.val (.bool (sameB U V))), some (.val (.list bads')), none, some (.val (.list ((far n).map Prod.fst))), x24], by rw [assignT_nm]; simp only [List.set], ?_, ?_⟩
  · unfold mTurn
    rw [mSeq_ap, r1, Out.seq_nx, mSeq_ap, r2, Out.seq_nx, mSeq_ap, r3, Out.seq_nx, mSeq_ap, r4, Out.seq_nx, mSeq_ap, r5, Out.seq_nx, mSeq_ap, r6, Out.seq_nx, mSeq_ap, r7, Out.seq_nx, mSeq_ap, r8, Out.seq_nx, mSeq_ap, r9, Out.seq_nx, mSeq_ap, r10, Out.seq_nx, mSeq_ap, r11, Out.seq_nx, mSeq_ap, r12, Out.seq_nx, mSeq_ap, r13, Out.seq_nx, mSeq_ap, r14, Out.seq_nx, mSeq_ap, r15, Out.seq_nx, mSeq_ap, r16, Out.seq_nx, mSeq_ap, r17, Out.seq_nx, mSeq_ap, r18, Out.seq_nx, mSeq_ap, r19, Out.seq_nx, mSeq_ap, r20, Out.seq_nx, mSeq_ap, r21, Out.seq_nx, mSeq_ap, r22, Out.seq_nx, mSeq_ap, r23, Out.seq_nx, mSeq_ap, r24, Out.seq_nx, mSeq_ap, r25, Out.seq_nx, mSeq_ap, r26, Out.seq_nx, mSeq_ap, r27, Out.seq_nx, r28]
  · exact ⟨_, _, _, _, _, _, _, _, _, _, _, _, _, _, _, _, _, _, _, ky6, rfl, rfl⟩

end Sd.K04
set_option Elab.async false
set_option linter.all false
set_option maxRecDepth 100000
set_option maxHeartbeats 0
set_option autoImplicit false
namespace Sd.K04
open PySem PySem.Spec PyProof.Rows L2 C8 Sd GenW GxR
def d_is_number : He.DefD := ⟨("is_number", none), "is_number", "is_number", fnArgs (top 2), fnBody (top 2), fnScope (top 2), [], []⟩
def d_is_word : He.DefD := ⟨("is_word", none), "is_word", "is_word", fnArgs (top 3), fnBody (top 3), fnScope (top 3), [], []⟩
def d_is_stretch : He.DefD := ⟨("is_stretch", none), "is_stretch", "is_stretch", fnArgs (top 8), fnBody (top 8), fnScope (top 8), [], []⟩
def d_is_box : He.DefD := ⟨("is_box", none), "is_box", "is_box", fnArgs (top 7), fnBody (top 7), fnScope (top 7), [], []⟩
def d_is_place : He.DefD := ⟨("is_place", none), "is_place", "is_place", fnArgs (top 9), fnBody (top 9), fnScope (top 9), [], []⟩
def d_clash : He.DefD := ⟨("clash", none), "clash", "clash", fnArgs (top 10), fnBody (top 10), fnScope (top 10), [], []⟩
def d_shared : He.DefD := ⟨("shared", none), "shared", "shared", fnArgs (top 11), fnBody (top 11), fnScope (top 11), [], []⟩
def d_shifted : He.DefD := ⟨("shifted", none), "shifted", "shifted", fnArgs (top 12), fnBody (top 12), fnScope (top 12), [], []⟩
def d_holds : He.DefD := ⟨("holds", none), "holds", "holds", fnArgs (top 13), fnBody (top 13), fnScope (top 13), [], []⟩
def d_room_of : He.DefD := ⟨("room_of", none), "room_of", "room_of", fnArgs (top 14), fnBody (top 14), fnScope (top 14), [], []⟩
def d_is_thing : He.DefD := ⟨("is_thing", none), "is_thing", "is_thing", fnArgs (top 17), fnBody (top 17), fnScope (top 17), [], []⟩
def d_dimension : He.DefD := ⟨("dimension", none), "dimension", "dimension", fnArgs (top 18), fnBody (top 18), fnScope (top 18), [], []⟩
def d_at : He.DefD := ⟨("at", none), "at", "at", fnArgs (top 19), fnBody (top 19), fnScope (top 19), [], []⟩
def d_clashes : He.DefD := ⟨("clashes", none), "clashes", "clashes", fnArgs (top 20), fnBody (top 20), fnScope (top 20), [], []⟩
def d_without : He.DefD := ⟨("without", none), "without", "without", fnArgs (top 22), fnBody (top 22), fnScope (top 22), [], []⟩
def d_apart : He.DefD := ⟨("apart", none), "apart", "apart", fnArgs (top 21), fnBody (top 21), fnScope (top 21), [], []⟩
def d_volume : He.DefD := ⟨("volume", none), "volume", "volume", fnArgs (top 23), fnBody (top 23), fnScope (top 23), [], []⟩
def d_same_room : He.DefD := ⟨("same_room", none), "same_room", "same_room", fnArgs (top 24), fnBody (top 24), fnScope (top 24), [], []⟩
def d_hull : He.DefD := ⟨("hull", none), "hull", "hull", fnArgs (top 25), fnBody (top 25), fnScope (top 25), [], []⟩
def d__law_draws : He.DefD := ⟨("_law_draws", none), "_law_draws", "_law_draws", fnArgs (top 27), fnBody (top 27), fnScope (top 27), [], []⟩
def d__law_take : He.DefD := ⟨("_law_take", none), "_law_take", "_law_take", fnArgs (top 28), fnBody (top 28), fnScope (top 28), [], []⟩
def d__law_alike : He.DefD := ⟨("_law_alike", none), "_law_alike", "_law_alike", fnArgs (top 29), fnBody (top 29), fnScope (top 29), [], []⟩
def d__law_says : He.DefD := ⟨("_law_says", none), "_law_says", "_law_says", fnArgs (top 30), fnBody (top 30), fnScope (top 30), [], []⟩
def d__law_box : He.DefD := ⟨("_law_box", none), "_law_box", "_law_box", fnArgs (top 31), fnBody (top 31), fnScope (top 31), [], []⟩
def d__law_thing : He.DefD := ⟨("_law_thing", none), "_law_thing", "_law_thing", fnArgs (top 32), fnBody (top 32), fnScope (top 32), [], []⟩
def d__law_clash : He.DefD := ⟨("_law_clash", none), "_law_clash", "_law_clash", fnArgs (top 33), fnBody (top 33), fnScope (top 33), [], []⟩
def d__law_within : He.DefD := ⟨("_law_within", none), "_law_within", "_law_within", fnArgs (top 34), fnBody (top 34), fnScope (top 34), [], []⟩
def d__law_units : He.DefD := ⟨("_law_units", none), "_law_units", "_law_units", fnArgs (top 35), fnBody (top 35), fnScope (top 35), [], []⟩
def d__law_bent : He.DefD := ⟨("_law_bent", none), "_law_bent", "_law_bent", fnArgs (top 36), fnBody (top 36), fnScope (top 36), [], []⟩
def d_law : He.DefD := ⟨("law", none), "law", "law", fnArgs (top 37), fnBody (top 37), fnScope (top 37), [], []⟩
def hfn0 : List He.DefD := [d_is_number, d_is_word, d_is_stretch, d_is_box, d_is_place, d_clash, d_shared, d_shifted, d_holds, d_room_of, d_is_thing, d_dimension, d_at, d_clashes, d_without, d_apart, d_volume, d_same_room, d_hull, d__law_draws, d__law_take, d__law_alike, d__law_says, d__law_box, d__law_thing, d__law_clash, d__law_within, d__law_units, d__law_bent, d_law]
def hfn : List He.DefD := hfn0
def hfa0 : List He.Fa := [.glo "is_number", .glo "is_word", .glo "is_stretch", .glo "is_box", .glo "is_place", .glo "clash", .glo "shared", .glo "shifted", .glo "holds", .glo "room_of", .glo "is_thing", .glo "dimension", .glo "at", .glo "clashes", .glo "without", .glo "apart", .glo "volume", .glo "same_room", .glo "hull", .glo "_law_draws", .glo "_law_take", .glo "_law_alike", .glo "_law_says", .glo "_law_box", .glo "_law_thing", .glo "_law_clash", .glo "_law_within", .glo "_law_units", .glo "_law_bent", .glo "law"]
def hfa1 : List He.Fa := [.free "abs", .free "all", .free "any", .free "bool", .free "dict", .free "int", .free "isinstance", .free "len", .free "list", .free "max", .free "min", .free "range", .free "reversed", .free "sorted", .free "str", .free "sum", .free "tuple", .free "zip", .str "LETTERS" "abcdefghijklmnopqrstuvwxyz", .int "MOST_BOXES" 8, .int "MOST_CORNER" 1000, .int "MOST_PLACE" 4000]
def hfa : List He.Fa := hfa0 ++ hfa1
def htf0 : List He.Defn := [("is_word", none), ("is_stretch", none), ("is_box", none), ("is_place", none), ("clash", none), ("holds", none), ("is_thing", none), ("clashes", none)]
def htf : List He.Defn := htf0
def loose0 : List PySem.Str := ["is_number", "is_word", "is_box", "is_stretch", "is_place", "clash", "shared", "shifted", "holds", "room_of", "is_thing", "dimension", "at", "clashes", "apart", "without", "volume", "same_room", "hull", "_law_draws", "_law_take", "_law_alike", "_law_says", "_law_box", "_law_thing", "_law_clash", "_law_within", "_law_units", "_law_bent", "LETTERS"]
def loose1 : List PySem.Str := ["MOST_CORNER", "MOST_PLACE", "MOST_BOXES"]
def loose : List PySem.Str := loose0 ++ loose1
def hex (K : PySem.W.Frag) : Bool := true
abbrev RR : PySem.W.OpenRow := PySem.W.OpenLaw.row PySem.Challenge.rw_slideclear_k04_whole_boxes_and_things
abbrev hk : PySem.W.Hook := He.hookX 4 hfa hfn [] htf hex
def ob (s : PySem.W.SharedT) : He.AlX := He.obsX 4 hfa hfn [] htf hex (HandSHeadRun.getT s)
theorem ob_eq (s : PySem.W.SharedT) : ob s = hk.obs s.abs := He.obsX_eq (HandSHeadRun.getT_eq s)
theorem run (w : World) : HandSHeadRun.RunEq RR (PySem.W.view RR.prog [37]) hk ob 4000 loose w := by
  intro os
  kernel_rfl
theorem tx {P : Program} {w : World} {K : PySem.W.Frag} {h : Heap} {mg : Str → Option Value} {base : Heap} (KX : K.In h) (G : h.Ns mainGlobals mg) (c : He.SaysX hfa hfn [] htf hex w h K) (hT : ∀ p ∈ csOf K htf, TabB base mg p.1 p.2) : Tx P w K mg base ((csOf K htf).map (·.2)) where
  f_is_number := by
      obtain ⟨fd, Fn⟩ := c.t.d.def_ 0 (d := d_is_number) rfl
      exact ⟨_, fd, _, defC_of Fn (He.glo_ok KX G (c.t.d.fact 0 (f := .glo "is_number") rfl))⟩
  f_is_word := by
      obtain ⟨fd, Fn⟩ := c.t.d.def_ 1 (d := d_is_word) rfl
      exact ⟨_, fd, _, _, defC_of Fn (He.glo_ok KX G (c.t.d.fact 1 (f := .glo "is_word") rfl)), (hT _ (List.mem_map.mpr ⟨("is_word", none), by decide, rfl⟩)), List.mem_map.mpr ⟨_, List.mem_map.mpr ⟨("is_word", none), by decide, rfl⟩, rfl⟩⟩
  f_is_stretch := by
      obtain ⟨fd, Fn⟩ := c.t.d.def_ 2 (d := d_is_stretch) rfl
      exact ⟨_, fd, _, _, defC_of Fn (He.glo_ok KX G (c.t.d.fact 2 (f := .glo "is_stretch") rfl)), (hT _ (List.mem_map.mpr ⟨("is_stretch", none), by decide, rfl⟩)), List.mem_map.mpr ⟨_, List.mem_map.mpr ⟨("is_stretch", none), by decide, rfl⟩, rfl⟩⟩
  f_is_box := by
      obtain ⟨fd, Fn⟩ := c.t.d.def_ 3 (d := d_is_box) rfl
      exact ⟨_, fd, _, _, defC_of Fn (He.glo_ok KX G (c.t.d.fact 3 (f := .glo "is_box") rfl)), (hT _ (List.mem_map.mpr ⟨("is_box", none), by decide, rfl⟩)), List.mem_map.mpr ⟨_, List.mem_map.mpr ⟨("is_box", none), by decide, rfl⟩, rfl⟩⟩
  f_is_place := by
      obtain ⟨fd, Fn⟩ := c.t.d.def_ 4 (d := d_is_place) rfl
      exact ⟨_, fd, _, _, defC_of Fn (He.glo_ok KX G (c.t.d.fact 4 (f := .glo "is_place") rfl)), (hT _ (List.mem_map.mpr ⟨("is_place", none), by decide, rfl⟩)), List.mem_map.mpr ⟨_, List.mem_map.mpr ⟨("is_place", none), by decide, rfl⟩, rfl⟩⟩
  f_clash := by
      obtain ⟨fd, Fn⟩ := c.t.d.def_ 5 (d := d_clash) rfl
      exact ⟨_, fd, _, _, defC_of Fn (He.glo_ok KX G (c.t.d.fact 5 (f := .glo "clash") rfl)), (hT _ (List.mem_map.mpr ⟨("clash", none), by decide, rfl⟩)), List.mem_map.mpr ⟨_, List.mem_map.mpr ⟨("clash", none), by decide, rfl⟩, rfl⟩⟩
  f_shared := by
      obtain ⟨fd, Fn⟩ := c.t.d.def_ 6 (d := d_shared) rfl
      exact ⟨_, fd, _, defC_of Fn (He.glo_ok KX G (c.t.d.fact 6 (f := .glo "shared") rfl))⟩
  f_shifted := by
      obtain ⟨fd, Fn⟩ := c.t.d.def_ 7 (d := d_shifted) rfl
      exact ⟨_, fd, _, defC_of Fn (He.glo_ok KX G (c.t.d.fact 7 (f := .glo "shifted") rfl))⟩
  f_holds := by
      obtain ⟨fd, Fn⟩ := c.t.d.def_ 8 (d := d_holds) rfl
      exact ⟨_, fd, _, _, defC_of Fn (He.glo_ok KX G (c.t.d.fact 8 (f := .glo "holds") rfl)), (hT _ (List.mem_map.mpr ⟨("holds", none), by decide, rfl⟩)), List.mem_map.mpr ⟨_, List.mem_map.mpr ⟨("holds", none), by decide, rfl⟩, rfl⟩⟩
  f_room_of := by
      obtain ⟨fd, Fn⟩ := c.t.d.def_ 9 (d := d_room_of) rfl
      exact ⟨_, fd, _, defC_of Fn (He.glo_ok KX G (c.t.d.fact 9 (f := .glo "room_of") rfl))⟩
  f_is_thing := by
      obtain ⟨fd, Fn⟩ := c.t.d.def_ 10 (d := d_is_thing) rfl
      exact ⟨_, fd, _, _, defC_of Fn (He.glo_ok KX G (c.t.d.fact 10 (f := .glo "is_thing") rfl)), (hT _ (List.mem_map.mpr ⟨("is_thing", none), by decide, rfl⟩)), List.mem_map.mpr ⟨_, List.mem_map.mpr ⟨("is_thing", none), by decide, rfl⟩, rfl⟩⟩
  f_dimension := by
      obtain ⟨fd, Fn⟩ := c.t.d.def_ 11 (d := d_dimension) rfl
      exact ⟨_, fd, _, defC_of Fn (He.glo_ok KX G (c.t.d.fact 11 (f := .glo "dimension") rfl))⟩
  f_at := by
      obtain ⟨fd, Fn⟩ := c.t.d.def_ 12 (d := d_at) rfl
      exact ⟨_, fd, _, defC_of Fn (He.glo_ok KX G (c.t.d.fact 12 (f := .glo "at") rfl))⟩
  f_clashes := by
      obtain ⟨fd, Fn⟩ := c.t.d.def_ 13 (d := d_clashes) rfl
      exact ⟨_, fd, _, _, defC_of Fn (He.glo_ok KX G (c.t.d.fact 13 (f := .glo "clashes") rfl)), (hT _ (List.mem_map.mpr ⟨("clashes", none), by decide, rfl⟩)), List.mem_map.mpr ⟨_, List.mem_map.mpr ⟨("clashes", none), by decide, rfl⟩, rfl⟩⟩
  f_without := by
      obtain ⟨fd, Fn⟩ := c.t.d.def_ 14 (d := d_without) rfl
      exact ⟨_, fd, _, defC_of Fn (He.glo_ok KX G (c.t.d.fact 14 (f := .glo "without") rfl))⟩
  f_apart := by
      obtain ⟨fd, Fn⟩ := c.t.d.def_ 15 (d := d_apart) rfl
      exact ⟨_, fd, _, defC_of Fn (He.glo_ok KX G (c.t.d.fact 15 (f := .glo "apart") rfl))⟩
  f_volume := by
      obtain ⟨fd, Fn⟩ := c.t.d.def_ 16 (d := d_volume) rfl
      exact ⟨_, fd, _, defC_of Fn (He.glo_ok KX G (c.t.d.fact 16 (f := .glo "volume") rfl))⟩
  f_same_room := by
      obtain ⟨fd, Fn⟩ := c.t.d.def_ 17 (d := d_same_room) rfl
      exact ⟨_, fd, _, defC_of Fn (He.glo_ok KX G (c.t.d.fact 17 (f := .glo "same_room") rfl))⟩
  f_hull := by
      obtain ⟨fd, Fn⟩ := c.t.d.def_ 18 (d := d_hull) rfl
      exact ⟨_, fd, _, defC_of Fn (He.glo_ok KX G (c.t.d.fact 18 (f := .glo "hull") rfl))⟩
  f__law_draws := by
      obtain ⟨fd, Fn⟩ := c.t.d.def_ 19 (d := d__law_draws) rfl
      exact ⟨_, fd, _, defC_of Fn (He.glo_ok KX G (c.t.d.fact 19 (f := .glo "_law_draws") rfl))⟩
  f__law_take := by
      obtain ⟨fd, Fn⟩ := c.t.d.def_ 20 (d := d__law_take) rfl
      exact ⟨_, fd, _, defC_of Fn (He.glo_ok KX G (c.t.d.fact 20 (f := .glo "_law_take") rfl))⟩
  f__law_alike := by
      obtain ⟨fd, Fn⟩ := c.t.d.def_ 21 (d := d__law_alike) rfl
      exact ⟨_, fd, _, defC_of Fn (He.glo_ok KX G (c.t.d.fact 21 (f := .glo "_law_alike") rfl))⟩
  f__law_says := by
      obtain ⟨fd, Fn⟩ := c.t.d.def_ 22 (d := d__law_says) rfl
      exact ⟨_, fd, _, defC_of Fn (He.glo_ok KX G (c.t.d.fact 22 (f := .glo "_law_says") rfl))⟩
  f__law_box := by
      obtain ⟨fd, Fn⟩ := c.t.d.def_ 23 (d := d__law_box) rfl
      exact ⟨_, fd, _, defC_of Fn (He.glo_ok KX G (c.t.d.fact 23 (f := .glo "_law_box") rfl))⟩
  f__law_thing := by
      obtain ⟨fd, Fn⟩ := c.t.d.def_ 24 (d := d__law_thing) rfl
      exact ⟨_, fd, _, defC_of Fn (He.glo_ok KX G (c.t.d.fact 24 (f := .glo "_law_thing") rfl))⟩
  f__law_clash := by
      obtain ⟨fd, Fn⟩ := c.t.d.def_ 25 (d := d__law_clash) rfl
      exact ⟨_, fd, _, defC_of Fn (He.glo_ok KX G (c.t.d.fact 25 (f := .glo "_law_clash") rfl))⟩
  f__law_within := by
      obtain ⟨fd, Fn⟩ := c.t.d.def_ 26 (d := d__law_within) rfl
      exact ⟨_, fd, _, defC_of Fn (He.glo_ok KX G (c.t.d.fact 26 (f := .glo "_law_within") rfl))⟩
  f__law_units := by
      obtain ⟨fd, Fn⟩ := c.t.d.def_ 27 (d := d__law_units) rfl
      exact ⟨_, fd, _, defC_of Fn (He.glo_ok KX G (c.t.d.fact 27 (f := .glo "_law_units") rfl))⟩
  f__law_bent := by
      obtain ⟨fd, Fn⟩ := c.t.d.def_ 28 (d := d__law_bent) rfl
      exact ⟨_, fd, _, defC_of Fn (He.glo_ok KX G (c.t.d.fact 28 (f := .glo "_law_bent") rfl))⟩
  b_abs := He.free_ok KX G (c.t.d.fact 30 (f := .free "abs") rfl)
  b_all := He.free_ok KX G (c.t.d.fact 31 (f := .free "all") rfl)
  b_any := He.free_ok KX G (c.t.d.fact 32 (f := .free "any") rfl)
  b_bool := He.free_ok KX G (c.t.d.fact 33 (f := .free "bool") rfl)
  b_dict := He.free_ok KX G (c.t.d.fact 34 (f := .free "dict") rfl)
  b_int := He.free_ok KX G (c.t.d.fact 35 (f := .free "int") rfl)
  b_isinstance := He.free_ok KX G (c.t.d.fact 36 (f := .free "isinstance") rfl)
  b_len := He.free_ok KX G (c.t.d.fact 37 (f := .free "len") rfl)
  b_list := He.free_ok KX G (c.t.d.fact 38 (f := .free "list") rfl)
  b_max := He.free_ok KX G (c.t.d.fact 39 (f := .free "max") rfl)
  b_min := He.free_ok KX G (c.t.d.fact 40 (f := .free "min") rfl)
  b_range := He.free_ok KX G (c.t.d.fact 41 (f := .free "range") rfl)
  b_reversed := He.free_ok KX G (c.t.d.fact 42 (f := .free "reversed") rfl)
  b_sorted := He.free_ok KX G (c.t.d.fact 43 (f := .free "sorted") rfl)
  b_str := He.free_ok KX G (c.t.d.fact 44 (f := .free "str") rfl)
  b_sum := He.free_ok KX G (c.t.d.fact 45 (f := .free "sum") rfl)
  b_tuple := He.free_ok KX G (c.t.d.fact 46 (f := .free "tuple") rfl)
  b_zip := He.free_ok KX G (c.t.d.fact 47 (f := .free "zip") rfl)
  k_LETTERS := He.str_ok KX G (c.t.d.fact 48 (f := .str "LETTERS" "abcdefghijklmnopqrstuvwxyz") rfl)
  k_MOST_BOXES := He.int_ok KX G (c.t.d.fact 49 (f := .int "MOST_BOXES" 8) rfl)
  k_MOST_CORNER := He.int_ok KX G (c.t.d.fact 50 (f := .int "MOST_CORNER" 1000) rfl)
  k_MOST_PLACE := He.int_ok KX G (c.t.d.fact 51 (f := .int "MOST_PLACE" 4000) rfl)
theorem at_law {w : World} {K : PySem.W.Frag} {h : Heap} {mg : Str → Option Value} {fA : Addr} (hl : ∀ ns : List Int, ns.length ≤ 63 → (∀ z ∈ ns, Builtin.Int.intBits z ≤ 1048576) → F_law [.list (ns.map .int)] = .ok (.val (.bool true)))
    (KX : K.In h) (G : h.Ns mainGlobals mg) (hlaw : mg ("law" : Str) = some (.ref fA)) (c : He.SaysX hfa hfn [] htf hex w h K) : LamX.LawAtS PySem.Challenge.rw_slideclear_k04_whole_boxes_and_things w K C8.CX0 14 63 "script" mg fA h := by
  obtain ⟨fd, Fn⟩ := c.t.d.def_ 29 (d := d_law) rfl
  have g := He.glo_ok KX G (c.t.d.fact 29 (f := .glo "law") rfl)
  have e := hlaw.symm.trans g
  cases e
  have b := FunD.bindsA (ps := ["script"]) Fn fun _ _ _ _ _ _ us hl => match us, hl with | [_], _ => rfl
  exact law_at KX c (fun s v => b s [v] rfl) hl fun base h1 h2 hT => ok_law (tx KX G c hT) (c := He.codeOf K ("law", none)) (Pt := 0) (defC_of Fn g)
end Sd.K04
open PySem PySem.W PySem.Calls PyProof.Rows
theorem holds_of (hl : ∀ ns : List Int, ns.length ≤ 63 → (∀ z ∈ ns, Builtin.Int.intBits z ≤ 1048576) → Sd.K04.F_law [.list (ns.map .int)] = .ok (.val (.bool true))) : PySem.Challenge.rw_slideclear_k04_whole_boxes_and_things.Holds := by
  w_on; o_law
  refine HandSHeadRun.head_any (r := OpenLaw.row PySem.Challenge.rw_slideclear_k04_whole_boxes_and_things) (q := view (OpenLaw.row PySem.Challenge.rw_slideclear_k04_whole_boxes_and_things).prog [37]) (H := Sd.K04.hk) (ob := Sd.K04.ob) (M := 4000) (loose := Sd.K04.loose) (d := HandSHeadRun.topDef (OpenLaw.row PySem.Challenge.rw_slideclear_k04_whole_boxes_and_things).prog 37) (kwd := []) Sd.K04.ob_eq
    (by kernel_rfl) (fun s => by kernel_rfl) Sd.K04.run (by kernel_rfl) (by kernel_rfl) (by kernel_rfl) (by rfl) (by first | assumption | decide +kernel) (by decide +kernel) ⟨rfl, rfl, rfl, rfl, rfl, by decide +kernel⟩ ?hw ?hc
  case hw => w_witness2
  case hc =>
    refine LamX.walk_ofTsE (l := PySem.Challenge.rw_slideclear_k04_whole_boxes_and_things) (n := 63) (k := 14) (x := "script") (CX := fun _ => C8.CX0) rfl (by decide) (by kernel_rfl) ⟨rfl, by decide, by decide⟩ ?F (fun _ _ _ _ _ z => z)
    intro w mg fa h Y G hmg0
    obtain ⟨K, KX, c⟩ := Y
    have hmg : mg ("law" : PySem.Str) = some (.ref fa) := by
      have e : (HandSHeadRun.topDef (OpenLaw.row PySem.Challenge.rw_slideclear_k04_whole_boxes_and_things).prog 37).name = ("law" : PySem.Str) := by kernel_rfl
      rw [← e]
      exact hmg0
    exact ⟨K, KX, Sd.K04.at_law hl KX G hmg c⟩
set_option Elab.async false
set_option linter.all false
set_option maxRecDepth 100000
set_option maxHeartbeats 4000000
set_option autoImplicit false
namespace Sd.K04
open PySem PySem.Spec PyProof.Rows L2 C8 Sd PySem.W

theorem runD {DR : Fn} {d : D} {ds : List Int} {x1 x2 x3 x4 x5 x6 x7 x8 x9 x10 x11 x12 x13 x14 x15 x16 x17 x18 x19 x20 x21 x22 x23 x24 : Option Sl} (h : DR [d] = .ok (.own (oI ds))) : d0 DR [some (.val d), x1, x2, x3, x4, x5, x6, x7, x8, x9, x10, x11, x12, x13, x14, x15, x16, x17, x18, x19, x20, x21, x22, x23, x24] = .nx [some (.val d), some (.own (oI ds)), x2, x3, x4, x5, x6, x7, x8, x9, x10, x11, x12, x13, x14, x15, x16, x17, x18, x19, x20, x21, x22, x23, x24] := by
  unfold d0
  simp only [mSet_ap, sCall_ap, aC_ap, aN_ap, sVar_ap, List.getElem?_cons_zero, Res.bind_ok, frz_val, h, Res.out_ok, List.set]
theorem law_ok (ns : List Int) (hl : ns.length ≤ 63) : F_law [.list (ns.map .int)] = .ok (.val (.bool true)) := by
  obtain ⟨ds, hd⟩ := draws_ok ns hl
  have rD := runD (x1 := none) (x2 := none) (x3 := none) (x4 := none) (x5 := none) (x6 := none) (x7 := none) (x8 := none) (x9 := none) (x10 := none) (x11 := none) (x12 := none) (x13 := none) (x14 := none) (x15 := none) (x16 := none) (x17 := none) (x18 := none) (x19 := none) (x20 := none) (x21 := none) (x22 := none) (x23 := none) (x24 := none) hd
  have st0 : St (some (.val (.list (ns.map .int)))) [some (.val (.list (ns.map .int))), some (.own (oI ds)), none, none, none, none, none, none, none, none, none, none, none, none, none, none, none, none, none, none, none, none, none, none, none] :=
    ⟨ds, none, none, none, none, none, none, none, none, none, none, none, none, none, none, none, none, none, none, rfl, rfl, rfl⟩
  obtain ⟨ρ', hf, hst⟩ := forItems_map (t := .nm 2) (body := mTurn) eN (I := fun _ ρ => St (some (.val (.list (ns.map .int)))) ρ) (items := List.range 6) st0 (fun a _ ρ h => turn_ok (eN a) h)
  obtain ⟨es, x2, x3, x4, x5, x6, x7, x8, x9, x10, x11, x12, x16, x17, x19, x20, x21, x23, x24, k6, k8, rfl⟩ := hst
  have rE1 := runE1 (S := some (.val (.list (ns.map .int)))) (x1 := some (.own (oI es))) (x2 := x2) (x3 := x3) (x4 := x4) (x5 := x5) (x6 := x6) (x7 := x7) (x9 := x9) (x10 := x10) (x11 := x11) (x12 := x12) (x13 := none) (x14 := none) (x15 := none) (x16 := x16) (x17 := x17) (x18 := none) (x19 := x19) (x20 := x20) (x21 := x21) (x22 := none) (x23 := x23) (x24 := x24) k8
  have num : ∀ p ∈ ([(.int 0, true), (.int 5, true), (.int 6, false), (.bool true, false), (.none, false)] : List (D × Bool)), F_is_number [p.1, .int 0, .int 5] = .ok (.val (.bool p.2)) := by
    intro p hp
    simp only [List.mem_cons, List.not_mem_nil, or_false] at hp
    rcases hp with rfl | rfl | rfl | rfl | rfl
    · exact is_number_D _ _ _ (by simp)
    · exact is_number_D _ _ _ (by simp)
    · exact is_number_D _ _ _ (by simp)
    · exact is_number_D _ _ _ (by simp)
    · exact is_number_D _ _ _ (by simp)
  have wrd : ∀ p ∈ ([(.str "a", true), (.str "abcdef", true), (.str "", false), (.str "abcdefg", false), (.str "A", false), (.none, false), (.str "a b", false)] : List (D × Bool)), F_is_word [p.1] = .ok (.val (.bool p.2)) := by
    intro p hp
    simp only [List.mem_cons, List.not_mem_nil, or_false] at hp
    rcases hp with rfl | rfl | rfl | rfl | rfl | rfl | rfl
    · rw [is_word_str _ (by decide), wb1]
    · rw [is_word_str _ (by decide), wb2]
    · rw [is_word_str _ (by decide), wb3]
    · rw [is_word_str _ (by decide), wb4]
    · rw [is_word_str _ (by decide), wb5]
    · exact w6
    · rw [is_word_str _ (by decide), wb7]
  have rE2 := runE2 (S := some (.val (.list (ns.map .int)))) (x1 := some (.own (oI es))) (x2 := x2) (x3 := x3) (x4 := x4) (x5 := x5) (x6 := x6) (x7 := x7) (x8 := x8) (x9 := x9) (x10 := x10) (x11 := x11) (x12 := x12) (x13 := none) (x14 := none) (x15 := none) (x16 := x16) (x17 := x17) (x18 := none) (x19 := x19) (x20 := x20) (x21 := x21) (x23 := x23) eight_thing nine_thing num
  have rE3 := runE3 (S := some (.val (.list (ns.map .int)))) (x1 := some (.own (oI es))) (x2 := x2) (x3 := x3) (x4 := x4) (x5 := x5) (x6 := x6) (x7 := x7) (x8 := x8) (x9 := x9) (x10 := x10) (x11 := x11) (x12 := x12) (x13 := none) (x14 := none) (x15 := none) (x16 := x16) (x17 := x17) (x18 := none) (x19 := x19) (x20 := x20) (x21 := x21) (x23 := x23) (x24 := some (.val (eT eight))) wrd
  have rg : ∀ ρ : Ev, sRange1 (aC (sC (.int 6)) aN) ρ = .ok ((List.range 6).map eN) ρ := fun ρ => sRange1_n (n := 6) (by simp) (by omega)
  rw [law_is]
  refine ofBody_rt (ρ := [some (.val (.list (ns.map .int))), some (.own (oI es)), x2, x3, x4, x5, x6, x7, x8, x9, x10, x11, x12, none, none, none, x16, x17, none, x19, x20, x21, none, x23, some (.val (eT eight))]) ?_
  simp only [List.map_cons, List.map_nil, List.replicate, List.cons_append, List.nil_append]
  unfold mEnd
  rw [mSeq_ap, rD, Out.seq_nx, mSeq_ap, mFor_ap, rg, Res.out_ok, hf, Out.seq_nx, mSeq_ap, rE1, Out.seq_nx, mSeq_ap, rE2, Out.seq_nx, rE3]
end Sd.K04
theorem k04_holds : PySem.Challenge.rw_slideclear_k04_whole_boxes_and_things.Holds := holds_of fun ns h _ => Sd.K04.law_ok ns h
theorem PySem.Challenge.cw_slideclear_k04_whole_boxes_and_things_holds : PySem.Challenge.rw_slideclear_k04_whole_boxes_and_things.Holds := by
  exact k04_holds
