import PyProof.Rows.All
import HandS.ForMost
import HandS.IsInst
import HandS.TupAny
import KE.KDictKeyed
import HandS.GenList
import HandS.AnyAll
import KE.DataEq
import KE.DataCmp
import KE.DataIsa
import KE.SortData
import KE.DataMinMax
import HandS.Style
import HandS.Text
import HandS.TupMul
import HandS.Codes
import HandS.Zip
import HandS.Conv
import HandS.TupLen
import HandS.RevTup
import HandS.Rev
import HandS.Star
import HandS.Keys
import HandS.Head0
import HandS.Head1
import HandS.Head2
import HandS.HeadEnd
import HandS.HeadHook1
import HandS.HeadHook2
import HandS.HeadHook3
import HandS.HeadHook4
import HandS.HeadWalk
import HandS.Iter
import HandS.Exc
import HandS.ExcOwn
import HandS.ExcIs
import PySem.Challenge.RW_slideclear_k06_whole_clear_places_and_wa
set_option Elab.async false
set_option linter.all false
set_option maxRecDepth 100000
set_option maxHeartbeats 4000000
set_option autoImplicit false
/-! Sd: data-level semantics over the hand layer: data, slots, results, what a state holds. -/
namespace Sd
open PySem PySem.Spec PyProof.Rows L2
abbrev St := L2.St

/-- what is fixed through a def: the code tables, the slots that are lent with their addresses -/
structure Fx where
  tabs : List Addr
  L : List (Nat × Addr)
structure Cn where
  P : Program
  w : World
  K : PySem.W.Frag
abbrev cnOf (X : Cx) : Cn := ⟨X.prog, X.w, X.K⟩
abbrev D := PyData

inductive Ob where
  | lst (xs : List D)
  | dct (kvs : List (D × D))
def Ob.frz : Ob → D
  | .lst xs => .list xs
  | .dct kvs => .dict kvs
inductive Sl where
  | val (d : D)
  | own (o : Ob)
def Sl.frz : Sl → D
  | .val d => d
  | .own o => o.frz
abbrev Ev := List (Option Sl)
inductive Res (α : Type) where
  | ok (a : α) (ρ : Ev)
  | exc (c : Str) (ρ : Ev)
  | bad
abbrev M (α : Type) := Ev → Res α

/-! ### what stands where -/
def keyD : Key → D
  | .inl i => .int i
  | .inr x => .str x
def NDict (c : Cn) (a : Addr) (xs : List (NestedKey × Addr × V)) (h : Heap) : Prop :=
  (a == sysModules) = false ∧ xs.length ≤ sizeLine ∧ ∃ ys : List (NestedKey × Addr × Value), Paired (fun x y => x.1 = y.1 ∧ x.2.1 = y.2.1 ∧ RelV x.2.2 y.2.2) xs ys ∧
    ∃ o es ep, h.get? a = some o ∧ o.ExactDict ∧ o.data = .dict es ep ∧ es.toList = ys.map (entryOfKey (nestedKind c.P c.w)) ∧ (ys.map (·.1)).Nodup
mutual
/-- the value v, over the heap G, is the datum d -/
inductive Rep (c : Cn) (G : Hp) : V → D → Prop
  | non : Rep c G .non .none
  | bl (b : Bool) : Rep c G (.bl b) (.bool b)
  | int (i : Int) : Rep c G (.int i) (.int i)
  | str (x : Str) : Rep c G (.str x) (.str x)
  | lst {a : Addr} {vs : List V} {ds : List D} : SqL c.K G a vs → Reps c G vs ds → Rep c G (.ref a) (.list ds)
  | tup {a : Addr} {vs : List V} {ds : List D} : SqT c.K G a vs → Reps c G vs ds → Rep c G (.ref a) (.tuple ds)
  | dctK {a : Addr} {es : List (Key × V)} {kvs : List (D × D)} : Rd G a (.dK es) → RepsK c G es kvs → Rep c G (.ref a) (.dict kvs)
  | dctN {a : Addr} {xs : List (NestedKey × Addr × V)} {kvs : List (D × D)} : G a = some (.ext (NDict c a xs)) → RepsN c G xs kvs → Rep c G (.ref a) (.dict kvs)
inductive Reps (c : Cn) (G : Hp) : List V → List D → Prop
  | nil : Reps c G [] []
  | cons {v : V} {vs : List V} {d : D} {ds : List D} : Rep c G v d → Reps c G vs ds → Reps c G (v :: vs) (d :: ds)
inductive RepsK (c : Cn) (G : Hp) : List (Key × V) → List (D × D) → Prop
  | nil : RepsK c G [] []
  | cons {k : Key} {v : V} {es : List (Key × V)} {d : D} {kvs : List (D × D)} : Rep c G v d → RepsK c G es kvs → RepsK c G ((k, v) :: es) ((keyD k, d) :: kvs)
inductive RepsN (c : Cn) (G : Hp) : List (NestedKey × Addr × V) → List (D × D) → Prop
  | nil : RepsN c G [] []
  | cons {k : NestedKey} {b : Addr} {v : V} {xs : List (NestedKey × Addr × V)} {d : D} {kvs : List (D × D)} : k.depth ≤ 8 → Rep c G (.ref b) k.data → Rep c G v d → RepsN c G xs kvs → RepsN c G ((k, b, v) :: xs) ((k.data, d) :: kvs)
end

theorem sqt_mono {K : PySem.W.Frag} {G G' : Hp} (h : Same G G') {a : Addr} {xs : List V} (q : SqT K G a xs) : SqT K G' a xs := by
  rcases q with (q | ⟨o, q⟩) | q
  · exact .inl (.inl (h _ _ q))
  · exact .inl (.inr ⟨o, h _ _ q⟩)
  · exact .inr q
theorem rd_mono {G G' : Hp} (h : Same G G') {a : Addr} {u : HO} (q : Rd G a u) : Rd G' a u := by
  rcases q with q | ⟨o, q⟩
  · exact .inl (h _ _ q)
  · exact .inr ⟨o, h _ _ q⟩
mutual
theorem Rep.mono {c : Cn} {G G' : Hp} (h : Same G G') : ∀ {v : V} {d : D}, Rep c G v d → Rep c G' v d
  | _, _, .non => .non
  | _, _, .bl b => .bl b
  | _, _, .int b => .int b
  | _, _, .str b => .str b
  | _, _, .lst q r => .lst (h.seq q) (Reps.mono h r)
  | _, _, .tup q r => .tup (sqt_mono h q) (Reps.mono h r)
  | _, _, .dctK q r => .dctK (rd_mono h q) (RepsK.mono h r)
  | _, _, .dctN q r => .dctN (h _ _ q) (RepsN.mono h r)
theorem Reps.mono {c : Cn} {G G' : Hp} (h : Same G G') : ∀ {v : List V} {d : List D}, Reps c G v d → Reps c G' v d
  | _, _, .nil => .nil
  | _, _, .cons a b => .cons (Rep.mono h a) (Reps.mono h b)
theorem RepsK.mono {c : Cn} {G G' : Hp} (h : Same G G') : ∀ {v : List (Key × V)} {d : List (D × D)}, RepsK c G v d → RepsK c G' v d
  | _, _, .nil => .nil
  | _, _, .cons a b => .cons (Rep.mono h a) (RepsK.mono h b)
theorem RepsN.mono {c : Cn} {G G' : Hp} (h : Same G G') : ∀ {v : List (NestedKey × Addr × V)} {d : List (D × D)}, RepsN c G v d → RepsN c G' v d
  | _, _, .nil => .nil
  | _, _, .cons l a b e => .cons l (Rep.mono h a) (Rep.mono h b) (RepsN.mono h e)
end

theorem Reps.length {c : Cn} {G : Hp} : ∀ {vs : List V} {ds : List D}, Reps c G vs ds → vs.length = ds.length
  | _, _, .nil => rfl
  | _, _, .cons _ t => by simp [Reps.length t]
theorem Reps.append {c : Cn} {G : Hp} : ∀ {vs ws : List V} {ds es : List D}, Reps c G vs ds → Reps c G ws es → Reps c G (vs ++ ws) (ds ++ es)
  | _, _, _, _, .nil, q => q
  | _, _, _, _, .cons a t, q => .cons a (Reps.append t q)
theorem Reps.get {c : Cn} {G : Hp} : ∀ {vs : List V} {ds : List D} (i : Nat) {d : D}, Reps c G vs ds → ds[i]? = some d → ∃ v, vs[i]? = some v ∧ Rep c G v d
  | _, _, _, _, .nil, e => by simp at e
  | _, _, 0, _, .cons a t, e => by simp at e; subst e; exact ⟨_, rfl, a⟩
  | _, _, i + 1, _, .cons a t, e => by
    obtain ⟨v, h1, h2⟩ := Reps.get i t (by simpa using e)
    exact ⟨v, by simpa using h1, h2⟩
theorem Reps.getV {c : Cn} {G : Hp} : ∀ {vs : List V} {ds : List D} (i : Nat) {v : V}, Reps c G vs ds → vs[i]? = some v → ∃ d, ds[i]? = some d ∧ Rep c G v d
  | _, _, _, _, .nil, e => by simp at e
  | _, _, 0, _, .cons a t, e => by simp at e; subst e; exact ⟨_, rfl, a⟩
  | _, _, i + 1, _, .cons a t, e => by
    obtain ⟨v, h1, h2⟩ := Reps.getV i t (by simpa using e)
    exact ⟨v, by simpa using h1, h2⟩
theorem Reps.take {c : Cn} {G : Hp} : ∀ {vs : List V} {ds : List D} (n : Nat), Reps c G vs ds → Reps c G (vs.take n) (ds.take n)
  | _, _, 0, _ => by simpa using .nil
  | _, _, n + 1, .nil => by simpa using .nil
  | _, _, n + 1, .cons a t => by simpa using .cons a (Reps.take n t)
theorem Reps.drop {c : Cn} {G : Hp} : ∀ {vs : List V} {ds : List D} (n : Nat), Reps c G vs ds → Reps c G (vs.drop n) (ds.drop n)
  | _, _, 0, q => by simpa using q
  | _, _, n + 1, .nil => by simpa using .nil
  | _, _, n + 1, .cons a t => by simpa using Reps.drop n t
theorem Reps.set {c : Cn} {G : Hp} {v : V} {d : D} (r : Rep c G v d) : ∀ {vs : List V} {ds : List D} (n : Nat), Reps c G vs ds → Reps c G (vs.set n v) (ds.set n d)
  | _, _, _, .nil => by simpa using .nil
  | _, _, 0, .cons a t => by simpa using .cons r t
  | _, _, n + 1, .cons a t => by simpa using .cons a (Reps.set r n t)
theorem Reps.reverse {c : Cn} {G : Hp} : ∀ {vs : List V} {ds : List D}, Reps c G vs ds → Reps c G vs.reverse ds.reverse
  | _, _, .nil => by simpa using .nil
  | _, _, .cons a t => by simpa using (Reps.reverse t).append (.cons a .nil)
theorem Reps.dropLast {c : Cn} {G : Hp} {vs : List V} {ds : List D} (r : Reps c G vs ds) : Reps c G vs.dropLast ds.dropLast := by
  rw [List.dropLast_eq_take, List.dropLast_eq_take, r.length]; exact r.take _

/-- an owned object at a -/
def ObAt (c : Cn) (G H : Hp) (a : Addr) : Ob → Prop
  | .lst ds => ∃ vs, H a = some (.lst vs) ∧ Reps c G vs ds
  | .dct kvs => (∃ es, H a = some (.dK es) ∧ RepsK c G es kvs) ∨ ∃ xs, H a = some (.ext (NDict c a xs)) ∧ RepsN c G xs kvs
def SlAt (c : Cn) (O : Addr → Prop) (G H : Hp) (v : V) : Sl → Prop
  | .val d => Rep c G v d
  | .own o => ∃ a, v = .ref a ∧ O a ∧ G a = none ∧ ObAt c G H a o
/-- an expression's result: a datum, or an owned object that is new -/
def RepR (c : Cn) (H0 G H : Hp) (v : V) : Sl → Prop
  | .val d => Rep c G v d
  | .own o => ∃ a, v = .ref a ∧ H0 a = none ∧ G a = none ∧ ObAt c G H a o

theorem ObAt.mono {c : Cn} {G G' H H' : Hp} {a : Addr} {o : Ob} (h : Same G G') (hH : H' a = H a) (q : ObAt c G H a o) : ObAt c G' H' a o := by
  cases o with
  | lst ds => obtain ⟨vs, e, r⟩ := q; exact ⟨vs, hH.trans e, r.mono h⟩
  | dct kvs =>
    rcases q with ⟨es, e, r⟩ | ⟨xs, e, r⟩
    · exact .inl ⟨es, hH.trans e, r.mono h⟩
    · exact .inr ⟨xs, hH.trans e, r.mono h⟩
theorem ObAt.there {c : Cn} {G H : Hp} {a : Addr} {o : Ob} (q : ObAt c G H a o) : ∃ u, H a = some u ∧ (∀ ps, u ≠ .tbl ps) ∧ Mut (some u) := by
  cases o with
  | lst ds => obtain ⟨vs, e, r⟩ := q; exact ⟨_, e, (fun ps z => by cases z), trivial⟩
  | dct kvs =>
    rcases q with ⟨es, e, r⟩ | ⟨xs, e, r⟩
    · exact ⟨_, e, (fun ps z => by cases z), trivial⟩
    · exact ⟨_, e, (fun ps z => by cases z), trivial⟩
theorem upd_some {H : Hp} {a : Addr} {u : HO} (e : H a = some u) : upd H a u = H := by
  funext b
  unfold upd
  split
  · rename_i z; rw [z, e]
  · rfl
/-- frozen -/
theorem ObAt.frz {c : Cn} {G H : Hp} {a : Addr} {o : Ob} {u : HO} (q : ObAt c G H a o) (e : H a = some u) (n : G a = none) : Rep c (upd G a u) (.ref a) o.frz := by
  have s : Same G (upd G a u) := fun b v h => by
    rw [upd_ne (ne_of_none h n)]; exact h
  cases o with
  | lst ds =>
    obtain ⟨vs, e', r⟩ := q
    rw [e] at e'; cases e'
    exact .lst (.inl (.inl upd_same)) (r.mono s)
  | dct kvs =>
    rcases q with ⟨es, e', r⟩ | ⟨xs, e', r⟩
    · rw [e] at e'; cases e'
      exact .dctK (.inl upd_same) (r.mono s)
    · rw [e] at e'; cases e'
      exact .dctN upd_same (r.mono s)

/-! ### transitions -/
structure Tr (O : Addr → Prop) (G H G' H' : Hp) : Prop where
  g : ∀ a o, G a = some o → G' a = some o
  k : ∀ a o, H a = some o → ¬ O a → (∀ ps, o ≠ .tbl ps) → H' a = some o
  n : ∀ a o, G' a = some o → G a = some o ∨ H a = none ∨ O a
  d : ∀ a, H' a = none → H a = none
  t : ∀ a ps, H a = some (.tbl ps) → ∃ ps', H' a = some (.tbl ps')
theorem Tr.refl {O : Addr → Prop} {G H : Hp} : Tr O G H G H := ⟨fun _ _ h => h, fun _ _ h _ _ => h, fun _ _ h => .inl h, fun _ h => h, fun _ ps h => ⟨ps, h⟩⟩
theorem Tr.same {O : Addr → Prop} {G H G' H' : Hp} (t : Tr O G H G' H') : Same G G' := t.g
/-- O' : the owned ones behind the first part -/
theorem Tr.trans {O O' : Addr → Prop} {G H G1 H1 G2 H2 : Hp} (a : Tr O G H G1 H1) (ho : ∀ x, O' x → O x ∨ H x = none) (b : Tr O' G1 H1 G2 H2) : Tr O G H G2 H2 where
  g := fun x o h => b.g x o (a.g x o h)
  k := fun x o h n t => b.k x o (a.k x o h n t) (fun z => (ho x z).elim n fun e => by rw [h] at e; cases e) t
  n := fun x o h => by
    rcases b.n x o h with q | q | q
    · exact a.n x o q
    · exact .inr (.inl (a.d x q))
    · exact .inr ((ho x q).elim .inr .inl)
  d := fun x h => a.d x (b.d x h)
  t := fun x ps h => by
    obtain ⟨ps1, h1⟩ := a.t x ps h
    exact b.t x ps1 h1
theorem Tr.trans' {O : Addr → Prop} {G H G1 H1 G2 H2 : Hp} (a : Tr O G H G1 H1) (b : Tr O G1 H1 G2 H2) : Tr O G H G2 H2 := a.trans (fun _ h => .inl h) b
theorem Tr.wider {O O' : Addr → Prop} {G H G1 H1 : Hp} (a : Tr O G H G1 H1) (h : ∀ x, O x → O' x) : Tr O' G H G1 H1 :=
  ⟨a.g, fun x o e n t => a.k x o e (fun z => n (h x z)) t, fun x o e => (a.n x o e).imp id (Or.imp id (h x)), a.d, a.t⟩
/-- something new was laid and is frozen (or is left free) -/
theorem Tr.new {O : Addr → Prop} {G H : Hp} {p : Addr} {o : HO} (hp : H p = none) (hg : G p = none) : Tr O G H (upd G p o) (upd H p o) where
  g := fun a u h => by rw [upd_ne (ne_of_none h hg)]; exact h
  k := fun a u h _ _ => by rw [upd_ne (ne_of_none h hp)]; exact h
  n := fun a u h => by
    by_cases e : a = p
    · subst e; exact .inr (.inl hp)
    · rw [upd_ne e] at h; exact .inl h
  d := fun a h => by
    by_cases e : a = p
    · subst e; exact hp
    · rw [upd_ne e] at h; exact h
  t := fun a ps h => ⟨ps, by rw [upd_ne (ne_of_none h hp)]; exact h⟩
theorem Tr.laid {O : Addr → Prop} {G H : Hp} {p : Addr} {o : HO} (hp : H p = none) : Tr O G H G (upd H p o) where
  g := fun a u h => h
  k := fun a u h _ _ => by rw [upd_ne (ne_of_none h hp)]; exact h
  n := fun a u h => .inl h
  d := fun a h => by
    by_cases e : a = p
    · subst e; exact hp
    · rw [upd_ne e] at h; exact h
  t := fun a ps h => ⟨ps, by rw [upd_ne (ne_of_none h hp)]; exact h⟩
/-- an owned object is written -/
theorem Tr.write {O : Addr → Prop} {G H : Hp} {a : Addr} {o u : HO} (ho : O a) (hu : H a = some u) (hn : ∀ ps, u ≠ .tbl ps) : Tr O G H G (upd H a o) where
  g := fun a u h => h
  k := fun b v h n _ => by rw [upd_ne (fun e : b = a => n (by rw [e]; exact ho))]; exact h
  n := fun a u h => .inl h
  d := fun b h => by
    by_cases e : b = a
    · subst e; rw [upd_same] at h; cases h
    · rw [upd_ne e] at h; exact h
  t := fun b ps h => ⟨ps, by
    rw [upd_ne (fun e => by subst e; rw [h] at hu; exact hn ps (Option.some.inj hu).symm)]; exact h⟩

/-! ### what a state holds -/
structure Hold (c : Cn) (T : Fx) (O : Addr → Prop) (G : Hp) (σ : St) (H : Hp) (ρ : Ev) : Prop where
  sub : ∀ a o, G a = some o → H a = some o
  ntb : ∀ a ps, G a ≠ some (.tbl ps)
  oin : ∀ a, O a → H a ≠ none
  tab : ∀ p ∈ T.tabs, ∃ ps : Array Value, H p = some (.tbl ps) ∧ TriplesOk ps.toList
  lnt : ∀ p ∈ T.L, σ[p.1]? = some (some (.ref p.2))
  len : ρ.length = σ.length
  slot : ∀ (i : Nat) (s : Sl), ρ[i]? = some (some s) → ∃ v, σ[i]? = some (some v) ∧ SlAt c O G H v s
  apart : ∀ (i j : Nat) (o o' : Ob) (a : Addr), i ≠ j → ρ[i]? = some (some (.own o)) → ρ[j]? = some (some (.own o')) → σ[i]? = some (some (.ref a)) → σ[j]? ≠ some (some (.ref a))

/-- new objects alone, nothing else touched -/
structure TrN (G H G' H' : Hp) : Prop where
  g : ∀ a o, G a = some o → G' a = some o
  k : ∀ a o, H a = some o → H' a = some o
  n : ∀ a o, G' a = some o → G a = some o ∨ H a = none
  s : ∀ a o, G' a = some o → H' a = some o
  b : ∀ a ps, G' a ≠ some (.tbl ps)
theorem TrN.tr {O : Addr → Prop} {G H G' H' : Hp} (t : TrN G H G' H') : Tr O G H G' H' :=
  ⟨t.g, fun a o h _ _ => t.k a o h, fun a o h => (t.n a o h).imp id .inl, fun a h => (by
    cases q : H a with
    | none => rfl
    | some o => rw [t.k a o q] at h; cases h), fun a ps h => ⟨ps, t.k a _ h⟩⟩
theorem TrN.refl {G H : Hp} (s : ∀ a o, G a = some o → H a = some o) (b : ∀ a ps, G a ≠ some (.tbl ps)) : TrN G H G H := ⟨fun _ _ h => h, fun _ _ h => h, fun _ _ h => .inl h, s, b⟩
theorem TrN.new {G H : Hp} {p : Addr} {o : HO} (s : ∀ a o, G a = some o → H a = some o) (b : ∀ a ps, G a ≠ some (.tbl ps)) (hp : H p = none) (ho : ∀ ps, o ≠ .tbl ps) : TrN G H (upd G p o) (upd H p o) := by
  have hg : G p = none := by
    cases q : G p with
    | none => rfl
    | some u => rw [s p u q] at hp; cases hp
  refine ⟨fun a u h => ?_, fun a u h => ?_, fun a u h => ?_, fun a u h => ?_, fun a ps h => ?_⟩
  · rw [upd_ne (ne_of_none h hg)]; exact h
  · rw [upd_ne (ne_of_none h hp)]; exact h
  · by_cases e : a = p
    · subst e; exact .inr hp
    · rw [upd_ne e] at h; exact .inl h
  · by_cases e : a = p
    · subst e; rw [upd_same] at h ⊢; exact h
    · rw [upd_ne e] at h ⊢; exact s a u h
  · by_cases e : a = p
    · subst e; rw [upd_same] at h; exact ho ps (Option.some.inj h)
    · rw [upd_ne e] at h; exact b a ps h
theorem TrN.laid {G H : Hp} {p : Addr} {o : HO} (s : ∀ a o, G a = some o → H a = some o) (b : ∀ a ps, G a ≠ some (.tbl ps)) (hp : H p = none) : TrN G H G (upd H p o) := by
  refine ⟨fun a u h => h, fun a u h => ?_, fun a u h => .inl h, fun a u h => ?_, b⟩
  · rw [upd_ne (ne_of_none h hp)]; exact h
  · rw [upd_ne (ne_of_none (s a u h) hp)]; exact s a u h
section
variable {c : Cn} {T : Fx} {O : Addr → Prop} {G H G' H' : Hp} {σ : St} {ρ : Ev}
theorem Hold.trn (h : Hold c T O G σ H ρ) (t : TrN G H G' H') : Hold c T O G' σ H' ρ where
  sub := t.s
  ntb := t.b
  oin := fun a ho e => by
    cases q : H a with
    | none => exact h.oin a ho q
    | some u => rw [t.k a u q] at e; cases e
  tab := fun p hp => by
    obtain ⟨ps, e, q⟩ := h.tab p hp
    exact ⟨ps, t.k p _ e, q⟩
  lnt := h.lnt
  len := h.len
  slot := fun i s hi => by
    obtain ⟨v, e, q⟩ := h.slot i s hi
    refine ⟨v, e, ?_⟩
    cases s with
    | val d => exact Rep.mono t.g q
    | own o =>
      obtain ⟨a, rfl, ho, hg, q⟩ := q
      obtain ⟨u, hu, _⟩ := q.there
      refine ⟨a, rfl, ho, ?_, q.mono t.g ((t.k a u hu).trans hu.symm)⟩
      cases z : G' a with
      | none => rfl
      | some w =>
        rcases t.n a w z with y | y
        · rw [hg] at y; cases y
        · rw [hu] at y; cases y
  apart := h.apart
theorem Hold.gnone (h : Hold c T O G σ H ρ) {p : Addr} (hp : H p = none) : G p = none := by
  cases q : G p with
  | none => rfl
  | some u => rw [h.sub p u q] at hp; cases hp
theorem Hold.at_own {i : Nat} {o : Ob} (h : Hold c T O G σ H ρ) (e : ρ[i]? = some (some (.own o))) : ∃ a, σ[i]? = some (some (.ref a)) ∧ O a ∧ G a = none ∧ ObAt c G H a o := by
  obtain ⟨v, e1, a, rfl, q⟩ := h.slot i _ e
  exact ⟨a, e1, q⟩
theorem Hold.at_val {i : Nat} {d : D} (h : Hold c T O G σ H ρ) (e : ρ[i]? = some (some (.val d))) : ∃ v, σ[i]? = some (some v) ∧ Rep c G v d := h.slot i _ e
/-- an object outside of the slots is frozen -/
theorem Hold.freeze {a : Addr} {o : Ob} (h : Hold c T O G σ H ρ) (hO : ¬ O a) (hg : G a = none) (q : ObAt c G H a o) : ∃ G', (∀ b, b ≠ a → G' b = G b) ∧ Same G G' ∧ G' a = H a ∧ Hold c T O G' σ H ρ ∧ Rep c G' (.ref a) o.frz := by
  obtain ⟨u, hu, ht, _⟩ := q.there
  have s : Same G (upd G a u) := fun b v e => by rw [upd_ne (ne_of_none e hg)]; exact e
  refine ⟨upd G a u, fun b hb => upd_ne hb, s, by rw [upd_same, hu], ⟨?_, ?_, h.oin, h.tab, h.lnt, h.len, ?_, h.apart⟩, q.frz hu hg⟩
  · intro b v e
    by_cases z : b = a
    · subst z; rw [upd_same] at e; cases e; exact hu
    · rw [upd_ne z] at e; exact h.sub b v e
  · intro b ps e
    by_cases z : b = a
    · subst z; rw [upd_same] at e; exact ht ps (Option.some.inj e)
    · rw [upd_ne z] at e; exact h.ntb b ps e
  · intro i sl hi
    obtain ⟨v, e1, q1⟩ := h.slot i sl hi
    refine ⟨v, e1, ?_⟩
    cases sl with
    | val d => exact Rep.mono s q1
    | own o' =>
      obtain ⟨b, rfl, ho, hg', q2⟩ := q1
      refine ⟨b, rfl, ho, ?_, q2.mono s rfl⟩
      rw [upd_ne (fun z : b = a => hO (by rw [← z]; exact ho))]
      exact hg'
theorem set_some_of {α : Type} {l : List α} {i j : Nat} {x y : α} (h : (l.set i x)[j]? = some y) : (j = i ∧ y = x) ∨ (j ≠ i ∧ l[j]? = some y) := by
  by_cases e : i = j
  · subst e
    by_cases hl : i < l.length
    · rw [List.getElem?_set_self hl] at h; exact .inl ⟨rfl, (Option.some.inj h).symm⟩
    · rw [List.getElem?_eq_none (by simpa using hl)] at h; cases h
  · rw [List.getElem?_set_ne e] at h; exact .inr ⟨fun z => e z.symm, h⟩
/-- a slot's object is frozen -/
theorem Hold.freezeS {i : Nat} {o : Ob} (h : Hold c T O G σ H ρ) (e : ρ[i]? = some (some (.own o))) :
    ∃ a G', σ[i]? = some (some (.ref a)) ∧ Tr O G H G' H ∧ Hold c T O G' σ H (ρ.set i (some (.val o.frz))) ∧ Rep c G' (.ref a) o.frz := by
  obtain ⟨a, ea, ho, hg, q⟩ := h.at_own e
  obtain ⟨u, hu, ht, _⟩ := q.there
  have s : Same G (upd G a u) := fun b v e => by rw [upd_ne (ne_of_none e hg)]; exact e
  refine ⟨a, upd G a u, ea, ⟨s, fun _ _ h _ _ => h, fun b v hb => ?_, fun _ h => h, fun _ ps h => ⟨ps, h⟩⟩, ⟨?_, ?_, h.oin, h.tab, h.lnt, by rw [List.length_set]; exact h.len, ?_, ?_⟩, q.frz hu hg⟩
  · by_cases z : b = a
    · subst z; exact .inr (.inr ho)
    · rw [upd_ne z] at hb; exact .inl hb
  · intro b v e
    by_cases z : b = a
    · subst z; rw [upd_same] at e; cases e; exact hu
    · rw [upd_ne z] at e; exact h.sub b v e
  · intro b ps e
    by_cases z : b = a
    · subst z; rw [upd_same] at e; exact ht ps (Option.some.inj e)
    · rw [upd_ne z] at e; exact h.ntb b ps e
  · intro j sl hj
    rcases set_some_of hj with ⟨rfl, hs⟩ | ⟨hne, hj⟩
    · cases hs
      exact ⟨_, ea, q.frz hu hg⟩
    · obtain ⟨v, e1, q1⟩ := h.slot j sl hj
      refine ⟨v, e1, ?_⟩
      cases sl with
      | val d => exact Rep.mono s q1
      | own o' =>
        obtain ⟨b, rfl, ho', hg', q2⟩ := q1
        refine ⟨b, rfl, ho', ?_, q2.mono s rfl⟩
        rw [upd_ne (fun z => h.apart i j o o' a (Ne.symm hne) e hj ea (by rw [← z]; exact e1))]
        exact hg'
  · intro j l o1 o2 b hjl hj hl
    rcases set_some_of hj with ⟨_, hs⟩ | ⟨_, hj⟩
    · cases hs
    · rcases set_some_of hl with ⟨_, hs⟩ | ⟨_, hl⟩
      · cases hs
      · exact h.apart j l o1 o2 b hjl hj hl
end
end Sd
set_option Elab.async false
set_option linter.all false
set_option maxRecDepth 100000
set_option maxHeartbeats 4000000
set_option autoImplicit false
/-! Sd: readings of data-level semantics; operands; operators. -/
namespace Sd
open PySem PySem.Spec PyProof.Rows L2

/-- what is wanted of an exception of the class named, by slots and heap -/
abbrev WX := Str → St → Hp → Prop
def W0 : WX := fun _ _ _ => False

section
variable (c : Cn) (T : Fx) (W : WX)
/-- the reading of f: from a state that holds an environment -/
def dT (f : M Sl) : TE := fun σ H Q => ∃ O G ρ, Hold c T O G σ H ρ ∧ match f ρ with
  | .ok r ρ' => ∀ v G' H', Tr O G H G' H' → Hold c T O G' σ H' ρ' → RepR c H G' H' v r → Q v H'
  | .exc e ρ' => ∀ G' H', Tr O G H G' H' → Hold c T O G' σ H' ρ' → W e σ H'
  | .bad => False
/-- .. of a test -/
def dB (f : M Bool) : TT := fun σ H Q => ∃ O G ρ, Hold c T O G σ H ρ ∧ match f ρ with
  | .ok r ρ' => ∀ G' H', Tr O G H G' H' → Hold c T O G' σ H' ρ' → Q r H'
  | .exc e ρ' => ∀ G' H', Tr O G H G' H' → Hold c T O G' σ H' ρ' → W e σ H'
  | .bad => False
/-- .. of a list of values, all frozen -/
def dA (f : M (List D)) : TA := fun σ H Q => ∃ O G ρ, Hold c T O G σ H ρ ∧ match f ρ with
  | .ok ds ρ' => ∀ vs G' H', Tr O G H G' H' → Hold c T O G' σ H' ρ' → Reps c G' vs ds → Q vs H'
  | .exc e ρ' => ∀ G' H', Tr O G H G' H' → Hold c T O G' σ H' ρ' → W e σ H'
  | .bad => False
end

theorem impPE {X : Cx} {e : Expr} {t t' : TE} (h : PE X e t) (i : ∀ σ H Q, t' σ H Q → t σ H Q) : PE X e t' := ⟨fun pins s σ H Q I q => h.run pins s σ H Q I (i σ H Q q)⟩
theorem impPT {X : Cx} {e : Expr} {t t' : TT} (h : PT X e t) (i : ∀ σ H Q, t' σ H Q → t σ H Q) : PT X e t' := ⟨fun pins s σ H Q I q => h.run pins s σ H Q I (i σ H Q q)⟩
theorem impPW {X : Cx} {e : Expr} {t t' : TT} (h : PW X e t) (i : ∀ σ H Q, t' σ H Q → t σ H Q) : PW X e t' := ⟨fun wh pins s σ H Q I q => h.run wh pins s σ H Q I (i σ H Q q)⟩
theorem impPA {X : Cx} {e : List Expr} {t t' : TA} (h : PA X e t) (i : ∀ σ H Q, t' σ H Q → t σ H Q) : PA X e t' := ⟨fun pos pins s σ H Q I q => h.run pos pins s σ H Q I (i σ H Q q)⟩
theorem impPS {X : Cx} {e : Stmt} {t t' : TS} (h : PS X e t) (i : ∀ D σ H, t' D σ H → t D σ H) : PS X e t' := ⟨fun pins s σ H D I q => h.run pins s σ H D I (i D σ H q)⟩
theorem impPSs {X : Cx} {e : List Stmt} {t t' : TS} (h : PSs X e t) (i : ∀ D σ H, t' D σ H → t D σ H) : PSs X e t' := ⟨fun pins s σ H D I q => h.run pins s σ H D I (i D σ H q)⟩

/-! ### results -/
def Res.bind {α β : Type} (r : Res α) (f : α → Ev → Res β) : Res β := match r with
  | .ok a ρ => f a ρ
  | .exc c ρ => .exc c ρ
  | .bad => .bad
@[simp] theorem Res.bind_ok {α β : Type} (a : α) (ρ : Ev) (f : α → Ev → Res β) : Res.bind (.ok a ρ) f = f a ρ := Eq.trans rfl rfl
@[simp] theorem Res.bind_exc {α β : Type} (a : Str) (ρ : Ev) (f : α → Ev → Res β) : Res.bind (.exc a ρ) f = .exc a ρ := rfl
@[simp] theorem Res.bind_bad {α β : Type} (f : α → Ev → Res β) : Res.bind .bad f = .bad := rfl
def Res.ofO {α : Type} (o : Option α) (ρ : Ev) : Res α := match o with
  | some a => .ok a ρ
  | none => .bad
@[simp] theorem Res.ofO_some {α : Type} (a : α) (ρ : Ev) : Res.ofO (some a) ρ = .ok a ρ := Eq.trans rfl rfl
@[simp] theorem Res.ofO_none {α : Type} (ρ : Ev) : Res.ofO (none : Option α) ρ = .bad := rfl

/-! ### operands: a name is looked at behind all other operands; anything else is frozen -/
inductive Opd where
  | nm (i : Nat)
  | ex (f : M Sl)
def Opd.ph1 : Opd → M (Option D)
  | .nm i => fun ρ => match ρ[i]? with
    | some (some _) => .ok none ρ
    | _ => .bad
  | .ex f => fun ρ => (f ρ).bind fun r ρ' => .ok (some r.frz) ρ'
def Opd.ph2 : Opd → Option D → Ev → Option D
  | .nm i, _, ρ => match ρ[i]? with
    | some (some s) => some s.frz
    | _ => none
  | .ex _, d, _ => d
def ph1s : List Opd → M (List (Option D))
  | [] => fun ρ => .ok [] ρ
  | A :: As => fun ρ => (A.ph1 ρ).bind fun x ρ1 => (ph1s As ρ1).bind fun xs ρ2 => .ok (x :: xs) ρ2
def ph2s : List Opd → List (Option D) → Ev → Option (List D)
  | [], _, _ => some []
  | A :: As, x :: xs, ρ => (A.ph2 x ρ).bind fun d => (ph2s As xs ρ).map (d :: ·)
  | _ :: _, [], _ => none
/-- an operation on operands -/
def sN (p : List D → Option Sl) (As : List Opd) : M Sl := fun ρ => (ph1s As ρ).bind fun xs ρ' => Res.ofO ((ph2s As xs ρ').bind p) ρ'
def bN (p : List D → Option Bool) (As : List Opd) : M Bool := fun ρ => (ph1s As ρ).bind fun xs ρ' => Res.ofO ((ph2s As xs ρ').bind p) ρ'

/-- a value seen: frozen, or an owned object as it stands -/
def Vw (c : Cn) (G H : Hp) (v : V) (d : D) : Prop := Rep c G v d ∨ ∃ a o, v = .ref a ∧ G a = none ∧ ObAt c G H a o ∧ d = o.frz
inductive Vws (c : Cn) (G H : Hp) : List V → List D → Prop
  | nil : Vws c G H [] []
  | cons {v : V} {vs : List V} {d : D} {ds : List D} : Vw c G H v d → Vws c G H vs ds → Vws c G H (v :: vs) (d :: ds)
/-- an operand's value, known now or by its slot -/
def OpV (c : Cn) (G : Hp) (σ : St) (A : Opd) (x : Option D) (v : V) : Prop := match A with
  | .nm i => σ[i]? = some (some v)
  | .ex _ => ∃ d, x = some d ∧ Rep c G v d
theorem OpV.mono {c : Cn} {G G' : Hp} {σ : St} {A : Opd} {x : Option D} {v : V} (h : OpV c G σ A x v) (s : Same G G') : OpV c G' σ A x v := by
  cases A with
  | nm i => exact h
  | ex f => obtain ⟨d, e, r⟩ := h; exact ⟨d, e, r.mono s⟩
section
variable {c : Cn} {T : Fx} {W : WX} {O : Addr → Prop} {G H : Hp} {σ : St} {ρ : Ev}
theorem OpV.view {A : Opd} {x : Option D} {v : V} {d : D} (h : OpV c G σ A x v) (hold : Hold c T O G σ H ρ) (e : A.ph2 x ρ = some d) : Vw c G H v d := by
  cases A with
  | nm i =>
    unfold Opd.ph2 at e
    simp only at e
    split at e
    · rename_i s hs
      cases e
      obtain ⟨v', e1, q⟩ := hold.slot i s hs
      rw [show σ[i]? = some (some v) from h] at e1
      cases e1
      cases s with
      | val d => exact .inl q
      | own o => obtain ⟨a, rfl, _, hg, q⟩ := q; exact .inr ⟨a, o, rfl, hg, q, rfl⟩
    · cases e
  | ex f =>
    obtain ⟨d', rfl, r⟩ := h
    cases (show some d' = some d from e)
    exact .inl r
/-- operands of an expression -/
def PO' (X : Cx) (T : Fx) (W : WX) (e : Expr) (A : Opd) : Prop := match A with
  | .nm i => PE X e (tVar i)
  | .ex f => PE X e (dT (cnOf X) T W f)
def tO (c : Cn) (T : Fx) (W : WX) : Opd → TE
  | .nm i => tVar i
  | .ex f => dT c T W f
theorem PO'.pe {X : Cx} {e : Expr} {A : Opd} (h : PO' X T W e A) : PE X e (tO (cnOf X) T W A) := by
  cases A <;> exact h
theorem Hold.frzR {v : V} {r : Sl} {H0 : Hp} {G0 : Hp} (h : Hold c T O G σ H ρ) (h0 : ∀ a, O a → H0 a ≠ none) (tr : Tr O G0 H0 G H) (q : RepR c H0 G H v r) : ∃ G', Same G G' ∧ Tr O G0 H0 G' H ∧ Hold c T O G' σ H ρ ∧ Rep c G' v r.frz := by
  cases r with
  | val d => exact ⟨G, fun _ _ h => h, tr, h, q⟩
  | own o =>
    obtain ⟨a, rfl, e0, hg, q⟩ := q
    obtain ⟨G', s1, s2, s3, s4, s5⟩ := h.freeze (fun z => h0 a z e0) hg q
    refine ⟨G', s2, ⟨fun b u e => s2 b u (tr.g b u e), tr.k, fun b u e => ?_, tr.d, tr.t⟩, s4, s5⟩
    by_cases z : b = a
    · subst z; exact .inr (.inl e0)
    · rw [s1 b z] at e; exact tr.n b u e
theorem opd_step {A : Opd} {Q : VK} (hold : Hold c T O G σ H ρ) (h : match A.ph1 ρ with
    | .ok x ρ' => ∀ v G' H', Tr O G H G' H' → Hold c T O G' σ H' ρ' → OpV c G' σ A x v → Q v H'
    | .exc e ρ' => ∀ G' H', Tr O G H G' H' → Hold c T O G' σ H' ρ' → W e σ H'
    | .bad => False) : tO c T W A σ H Q := by
  cases A with
  | nm i =>
    unfold Opd.ph1 at h
    simp only at h
    cases e : ρ[i]? with
    | none => rw [e] at h; exact h.elim
    | some o =>
      cases o with
      | none => rw [e] at h; exact h.elim
      | some s =>
        rw [e] at h
        obtain ⟨v, e1, _⟩ := hold.slot i s e
        exact ⟨v, e1, h v G H .refl hold e1⟩
  | ex f =>
    unfold Opd.ph1 at h
    simp only at h
    refine ⟨O, G, ρ, hold, ?_⟩
    cases e : f ρ with
    | ok r ρ' =>
      rw [e] at h
      intro v G' H' tr hold' q
      obtain ⟨G2, s, tr2, hold2, r2⟩ := hold'.frzR hold.oin tr q
      exact h v G2 H' tr2 hold2 ⟨_, rfl, r2⟩
    | exc x ρ' => rw [e] at h; exact h
    | bad => rw [e] at h; exact h
/-- two operands, then by views -/
theorem opd2 {A B : Opd} {p : List D → Option Sl} {Q : VK} {R : V → V → Hp → Prop} (h : dT c T W (sN p [A, B]) σ H Q)
    (k : ∀ O G ρ G1 H1 v w d e r, Hold c T O G σ H ρ → Tr O G H G1 H1 → Vw c G1 H1 v d → Vw c G1 H1 w e → p [d, e] = some r → (∀ a o, G1 a = some o → H1 a = some o) → (∀ a ps, G1 a ≠ some (.tbl ps)) →
      (∀ u G' H', TrN G1 H1 G' H' → RepR c H1 G' H' u r → Q u H') → R v w H1) :
    tO c T W A σ H fun v H1 => tO c T W B σ H1 fun w H2 => R v w H2 := by
  obtain ⟨O, G, ρ, hold, h⟩ := h
  unfold sN ph1s at h
  refine opd_step hold ?_
  cases e1 : A.ph1 ρ with
  | bad => rw [e1] at h; exact h
  | exc x ρ' => rw [e1] at h; exact h
  | ok x ρ1 =>
    rw [e1] at h
    intro v G1 H1 tr1 hold1 ov1
    refine opd_step hold1 ?_
    unfold ph1s at h
    simp only [Res.bind_ok] at h
    cases e2 : B.ph1 ρ1 with
    | bad => rw [e2] at h; exact h
    | exc x ρ' => rw [e2] at h; exact fun G' H' tr hd => h G' H' (tr1.trans' tr) hd
    | ok y ρ2 =>
      rw [e2] at h
      intro w G2 H2 tr2 hold2 ov2
      unfold ph1s at h
      simp only [Res.bind_ok, ph2s] at h
      cases q1 : A.ph2 x ρ2 with
      | none => rw [q1] at h; exact h.elim
      | some d =>
        cases q2 : B.ph2 y ρ2 with
        | none => rw [q1, q2] at h; exact h.elim
        | some e =>
          rw [q1, q2] at h
          simp only [Option.bind_some, Option.map_some] at h
          cases q3 : p [d, e] with
          | none => rw [q3] at h; exact h.elim
          | some r =>
            rw [q3] at h
            refine k O G ρ G2 H2 v w d e r hold (tr1.trans' tr2) ((ov1.mono tr2.g).view hold2 q1) (ov2.view hold2 q2) q3 hold2.sub hold2.ntb fun u G' H' tn rr => ?_
            refine h u G' H' ((tr1.trans' tr2).trans' tn.tr) (hold2.trn tn) ?_
            cases r with
            | val d => exact rr
            | own o =>
              obtain ⟨a, rfl, n0, q⟩ := rr
              exact ⟨a, rfl, (tr1.trans' tr2).d a n0, q⟩
theorem opd1 {A : Opd} {p : List D → Option Sl} {Q : VK} {R : V → Hp → Prop} (h : dT c T W (sN p [A]) σ H Q)
    (k : ∀ G1 H1 v d r, Vw c G1 H1 v d → p [d] = some r → (∀ a o, G1 a = some o → H1 a = some o) → (∀ a ps, G1 a ≠ some (.tbl ps)) →
      (∀ u G' H', TrN G1 H1 G' H' → RepR c H1 G' H' u r → Q u H') → R v H1) :
    tO c T W A σ H fun v H1 => R v H1 := by
  obtain ⟨O, G, ρ, hold, h⟩ := h
  unfold sN ph1s at h
  refine opd_step hold ?_
  cases e1 : A.ph1 ρ with
  | bad => rw [e1] at h; exact h
  | exc x ρ' => rw [e1] at h; exact h
  | ok x ρ1 =>
    rw [e1] at h
    intro v G1 H1 tr1 hold1 ov1
    unfold ph1s at h
    simp only [Res.bind_ok, ph2s] at h
    cases q1 : A.ph2 x ρ1 with
    | none => rw [q1] at h; exact h.elim
    | some d =>
      rw [q1] at h
      simp only [Option.bind_some, Option.map_some] at h
      cases q3 : p [d] with
      | none => rw [q3] at h; exact h.elim
      | some r =>
        rw [q3] at h
        refine k G1 H1 v d r (ov1.view hold1 q1) q3 hold1.sub hold1.ntb fun u G' H' tn rr => ?_
        refine h u G' H' (tr1.trans' tn.tr) (hold1.trn tn) ?_
        cases r with
        | val d => exact rr
        | own o =>
          obtain ⟨a, rfl, n0, q⟩ := rr
          exact ⟨a, rfl, tr1.d a n0, q⟩
end

/-- a two-place rule by values serves the data-level function p -/
def Op2 (c : Cn) (r : R2) (p : D → D → Option Sl) : Prop := ∀ G H v w d e s Q, (∀ a o, G a = some o → H a = some o) → (∀ a ps, G a ≠ some (.tbl ps)) → Vw c G H v d → Vw c G H w e → p d e = some s →
  (∀ u G' H', TrN G H G' H' → RepR c H G' H' u s → Q u H') → r v w H Q
def Op1 (c : Cn) (r : V → Hp → VK → Prop) (p : D → Option Sl) : Prop := ∀ G H v d s Q, (∀ a o, G a = some o → H a = some o) → (∀ a ps, G a ≠ some (.tbl ps)) → Vw c G H v d → p d = some s →
  (∀ u G' H', TrN G H G' H' → RepR c H G' H' u s → Q u H') → r v H Q
def on2 (p : D → D → Option Sl) : List D → Option Sl
  | [d, e] => p d e
  | _ => none
def on1 (p : D → Option Sl) : List D → Option Sl
  | [d] => p d
  | _ => none
def sOp2 (p : D → D → Option Sl) (A B : Opd) : M Sl := sN (on2 p) [A, B]
def sOp1 (p : D → Option Sl) (A : Opd) : M Sl := sN (on1 p) [A]
section
variable {X : Cx} {T : Fx} {W : WX} {a b : Expr} {A B : Opd} {pos : Pos}
theorem pe_op2 {op : Operator} {r : R2} {p : D → D → Option Sl} (ho : OpR X (binaryOp op) r) (hp : Op2 (cnOf X) r p) (ha : PO' X T W a A) (hb : PO' X T W b B) : PE X (.BinOp a op b pos) (dT (cnOf X) T W (sOp2 p A B)) :=
  impPE (pe_op ho ha.pe hb.pe) fun σ H Q h => opd2 h fun O G ρ G1 H1 v w d e s _ _ hv hw hs g1 g2 k => hp G1 H1 v w d e s Q g1 g2 hv hw hs k
theorem pe_cmp2 {op : CmpOp} {r : R2} {p : D → D → Option Sl} (ho : OpR X (compareOp op) r) (hm : behindInMarks op b = false) (hp : Op2 (cnOf X) r p) (ha : PO' X T W a A) (hb : PO' X T W b B) : PE X (.Compare a [op] [b] pos) (dT (cnOf X) T W (sOp2 p A B)) :=
  impPE (pe_cmpR ho ha.pe hb.pe hm) fun σ H Q h => opd2 h fun O G ρ G1 H1 v w d e s _ _ hv hw hs g1 g2 k => hp G1 H1 v w d e s Q g1 g2 hv hw hs k
theorem pe_un1 {op : UnaryOp} {r : V → Hp → VK → Prop} {p : D → Option Sl} (ho : UnR X (unaryOp op) r) (hp : Op1 (cnOf X) r p) (ha : PO' X T W a A) : PE X (.UnaryOp op a pos) (dT (cnOf X) T W (sOp1 p A)) :=
  impPE (pe_un ho ha.pe) fun σ H Q h => opd1 h fun G1 H1 v d s hv hs g1 g2 k => hp G1 H1 v d s Q g1 g2 hv hs k
end
end Sd
set_option Elab.async false
set_option linter.all false
set_option maxRecDepth 100000
set_option maxHeartbeats 4000000
set_option autoImplicit false
/-! Sd: comprehensions with any number of clauses: the turns. -/
namespace Sd
open PySem PySem.Spec PyProof.Rows L2

/-- a list or dict comprehension: its turns, by the depth -/
structure CE (e : Expr) (gens : List Comprehension) (emit : Value → PySem.Env → Sem Unit) : Prop where
  tin : ∀ (k : Nat) (t i : Expr) (ifs : List Expr), gens[k]? = some ⟨t, i, ifs, 0⟩ → gens[k + 1]? = none → ∀ (it acc : Value) (env : PySem.Env),
    compTurn e k it acc env = (do
      standAt i.pos
      match ← pyNext it with
      | none => pure (.done .next)
      | some v =>
        letOwnedTupleGo t it v
        assign t env v
        let mut ok := true
        for c in ifs do
          if ok then ok ← PySem.isTrue c env (eval c env)
        if ok then emit acc env
        again (.compLoop e k it acc env))
  tout : ∀ (k : Nat) (t i t1 i1 : Expr) (ifs ifs1 : List Expr), gens[k]? = some ⟨t, i, ifs, 0⟩ → gens[k + 1]? = some ⟨t1, i1, ifs1, 0⟩ → ∀ (it acc : Value) (env : PySem.Env),
    compTurn e k it acc env = (do
      standAt i.pos
      match ← pyNext it with
      | none => pure (.done .next)
      | some v =>
        letOwnedTupleGo t it v
        assign t env v
        let mut ok := true
        for c in ifs do
          if ok then ok ← PySem.isTrue c env (eval c env)
        if ok then
          let x ← eval i1 env
          standAt i1.pos
          let x ← foldedSetIterable i1 env x
          let _ ← runOwn (.compStart e (k + 1) (← holding [x] (pyIter x)) acc env) env
        again (.compLoop e k it acc env))
  den : ∀ (M : Program) (w : World) (k : Nat) (it acc : Value) (env : PySem.Env), (model M w).den (.compLoop e k it acc env) = (compTurn e k it acc env).onRaise (fun x => do noteFrame x env; theTreesLotGoes x)
  denS : ∀ (M : Program) (w : World) (k : Nat) (it acc : Value) (env : PySem.Env), (model M w).den (.compStart e k it acc env) = (compStart e k it acc env).onRaise (fun x => do noteFrame x env; standAt theWindowsPlace)
  cls : clausesOf e = gens
  qui : ∀ (k : Nat) (it acc : Value) (env : PySem.Env), (Code.compLoop e k it acc env).quiet = true
  und : ∀ (A : Around) (k : Nat) (it acc : Value) (env : PySem.Env), A.under (Code.compLoop e k it acc env) = A
  undS : ∀ (A : Around) (k : Nat) (it acc : Value) (env : PySem.Env), A.under (Code.compStart e k it acc env) = A

theorem ce_list (elt : Expr) (gens : List Comprehension) (scope : Scope) (pos : Pos) : CE (.ListComp elt gens scope pos) gens fun acc env => do let _ ← call (.builtin "list.append") [acc, ← eval elt env] where
  tin := fun k t i ifs hk hk1 it acc env => by
    unfold compTurn
    simp only [hk, hk1]
    rfl
  tout := fun k t i t1 i1 ifs ifs1 hk hk1 it acc env => by
    unfold compTurn
    simp only [hk, hk1]
    rfl
  den := fun _ _ _ _ _ _ => rfl
  denS := fun _ _ _ _ _ _ => rfl
  cls := rfl
  qui := fun _ _ _ _ => rfl
  und := fun _ _ _ _ _ => rfl
  undS := fun _ _ _ _ _ => rfl
def emitD (k v : Expr) : Value → PySem.Env → Sem Unit := fun acc env => do
  let kv ← eval k env
  let vv ← holding [kv] (eval v env)
  match acc with
  | .ref d => do
    standAt { k.pos with endLine := v.pos.endLine, endCol := v.pos.endCol }
    holding [kv, vv] (dictSet d kv vv)
  | _ => unsupported "internal:dictcomp"
theorem ce_dict (k v : Expr) (gens : List Comprehension) (scope : Scope) (pos : Pos) : CE (.DictComp k v gens scope pos) gens (emitD k v) where
  tin := fun k t i ifs hk hk1 it acc env => by
    unfold compTurn
    simp only [hk, hk1]
    rfl
  tout := fun k t i t1 i1 ifs ifs1 hk hk1 it acc env => by
    unfold compTurn
    simp only [hk, hk1]
    rfl
  den := fun _ _ _ _ _ _ => rfl
  denS := fun _ _ _ _ _ _ => rfl
  cls := rfl
  qui := fun _ _ _ _ => rfl
  und := fun _ _ _ _ _ => rfl
  undS := fun _ _ _ _ _ => rfl

section
variable {prog : Program} {w : World} {A : Around} {R : Result → Shared → Prop} {s : Shared} {e : Expr} {gens : List Comprehension} {emit : Value → PySem.Env → Sem Unit} {k : Nat} {t i t1 i1 : Expr} {ifs ifs1 : List Expr} {it acc : Value} {env : PySem.Env}
/-- a clause with another one within -/
theorem compLoop_out (C : CE e gens emit) (hk : gens[k]? = some ⟨t, i, ifs, 0⟩) (hk1 : gens[k + 1]? = some ⟨t1, i1, ifs1, 0⟩) (hs : ∀ x, foldedSetIterable i1 env x = pure x) (I : Nat → Shared → Prop)
    (turn : ∀ n s, I n s → wpAny (model prog w) A (pyNext it) (fun r s₁ => match r with
      | none => R (.ok .next) s₁
      | some v => wpAny (model prog w) A (letOwnedTupleGo t it v) (fun _ s₁' => wpAny (model prog w) A (assign t env v) (fun _ s₂ =>
          wpAny (model prog w) A (forIn ifs true fun c r => if r = true then do let ok ← PySem.isTrue c env (eval c env); pure (ForInStep.yield ok) else pure (ForInStep.yield r)) (fun ok s₃ =>
            if ok = true then wpAny (model prog w) A (eval i1 env) (fun x s₄ => wpAny (model prog w) A (pyIter x) (fun it1 s₅ =>
              codeAny (model prog w) A (.compStart e (k + 1) it1 acc env) (fun r s' => match r with
                | .ok _ => ∃ m, m < n ∧ I m s'
                | .error _ => False) s₅) (notedBy (model prog w) A env fun e s' => R (.error e) s') s₄) (notedBy (model prog w) A env fun e s' => R (.error e) s') s₃
            else ∃ m, m < n ∧ I m s₃) (notedBy (model prog w) A env fun e s' => R (.error e) s') s₂) (notedBy (model prog w) A env fun e s' => R (.error e) s') s₁') (notedBy (model prog w) A env fun e s' => R (.error e) s') s₁) (notedBy (model prog w) A env fun e s' => R (.error e) s') s)
    (n : Nat) (h : I n s) : codeAny (model prog w) A (.compLoop e k it acc env) R s := by
  refine codeAny_loop (C.qui ..) I (fun n s hI => ?_) n h
  rw [C.den, C.und]
  refine wpAny_noted ?_
  rw [C.tout k t i t1 i1 ifs ifs1 hk hk1]
  refine wpAny_bind (wpAny_standAt (wpAny_bind (wpAny_mono (turn n s hI) (fun r s₁ h₁ => ?_) fun _ _ h' => h')))
  cases r with
  | none => exact wpAny_pure h₁
  | some v =>
    refine wpAny_bind (wpAny_mono h₁ (fun _ s₁' h₁' => ?_) fun _ _ h' => h')
    refine wpAny_bind (wpAny_mono h₁' (fun _ s₂ h₂ => wpAny_bind (wpAny_mono h₂ (fun ok s₃ h₃ => ?_) fun _ _ h' => h')) fun _ _ h' => h')
    cases ok with
    | false => exact wpAny_pure ⟨rfl, h₃⟩
    | true =>
      refine wpAny_bind (wpAny_mono h₃ (fun x s₄ h₄ => ?_) fun _ _ h' => h')
      refine wpAny_bind (wpAny_standAt (wpAny_bind (wpAny_of_eq (hs x) (wpAny_bind (wpAny_holding (wpAny_mono h₄ (fun it1 s₅ h₅ => ?_) fun _ _ h' => h'))))))
      refine wpAny_bind (wpAny_runOwn ?_)
      rw [Around.mark_none]
      refine codeAny_mono h₅ fun r s' hr => ?_
      cases r with
      | ok f =>
        first
          | exact wpAny_pure ⟨rfl, hr⟩
          | exact wpAny_bind (wpAny_pure (wpAny_pure ⟨rfl, hr⟩))
      | error e => exact hr.elim
/-- the innermost clause -/
theorem compLoop_in (C : CE e gens emit) (hk : gens[k]? = some ⟨t, i, ifs, 0⟩) (hk1 : gens[k + 1]? = none) (I : Nat → Shared → Prop)
    (turn : ∀ n s, I n s → wpAny (model prog w) A (pyNext it) (fun r s₁ => match r with
      | none => R (.ok .next) s₁
      | some v => wpAny (model prog w) A (letOwnedTupleGo t it v) (fun _ s₁' => wpAny (model prog w) A (assign t env v) (fun _ s₂ =>
          wpAny (model prog w) A (forIn ifs true fun c r => if r = true then do let ok ← PySem.isTrue c env (eval c env); pure (ForInStep.yield ok) else pure (ForInStep.yield r)) (fun ok s₃ =>
            if ok = true then wpAny (model prog w) A (emit acc env) (fun _ s₅ => ∃ m, m < n ∧ I m s₅) (notedBy (model prog w) A env fun e s' => R (.error e) s') s₃
            else ∃ m, m < n ∧ I m s₃) (notedBy (model prog w) A env fun e s' => R (.error e) s') s₂) (notedBy (model prog w) A env fun e s' => R (.error e) s') s₁') (notedBy (model prog w) A env fun e s' => R (.error e) s') s₁) (notedBy (model prog w) A env fun e s' => R (.error e) s') s)
    (n : Nat) (h : I n s) : codeAny (model prog w) A (.compLoop e k it acc env) R s := by
  refine codeAny_loop (C.qui ..) I (fun n s hI => ?_) n h
  rw [C.den, C.und]
  refine wpAny_noted ?_
  rw [C.tin k t i ifs hk hk1]
  refine wpAny_bind (wpAny_standAt (wpAny_bind (wpAny_mono (turn n s hI) (fun r s₁ h₁ => ?_) fun _ _ h' => h')))
  cases r with
  | none => exact wpAny_pure h₁
  | some v =>
    refine wpAny_bind (wpAny_mono h₁ (fun _ s₁' h₁' => ?_) fun _ _ h' => h')
    refine wpAny_bind (wpAny_mono h₁' (fun _ s₂ h₂ => wpAny_bind (wpAny_mono h₂ (fun ok s₃ h₃ => ?_) fun _ _ h' => h')) fun _ _ h' => h')
    cases ok with
    | false => exact wpAny_pure ⟨rfl, h₃⟩
    | true => exact wpAny_bind (wpAny_mono h₃ (fun _ s₅ h₅ => wpAny_pure ⟨rfl, h₅⟩) fun _ _ h' => h')
/-- a clause's start -/
theorem compStart_of (C : CE e gens emit) (hk : gens[k]? = some ⟨t, i, ifs, 0⟩) (h0 : codeAny (model prog w) A (.compLoop e k it acc env) R s)
    (h : wpAny (model prog w) A (pyIter it) (fun it' s' => codeAny (model prog w) A (.compLoop e k it' acc env) R s') (notedBy (model prog w) A env fun x s' => R (.error x) s') s) :
    codeAny (model prog w) A (.compStart e k it acc env) R s := by
  refine codeAny_of_tree ?_
  rw [C.denS, C.undS]
  refine wpAny_notedAt ?_
  unfold compStart
  simp only [C.cls, hk]
  show wpAny _ _ (ask >>= _) _ _ s
  refine wpAny_bind (wpAny_askSetting (wpAny_ite ?_))
  have q := C.qui k it acc env
  have q2 : ∀ it', (Code.compLoop e k it' acc env).quiet = true := fun it' => C.qui k it' acc env
  split
  · first
      | exact wpAny_bind (wpAny_pure (wpAny_pure (And.intro q h0)))
      | exact wpAny_pure (And.intro q h0)
  · first
      | exact wpAny_bind (wpAny_rule (wpAny_bind (wpAny_standAt (wpAny_bind (wpAny_mono h (fun it' s' h' => wpAny_pure (And.intro (q2 it') h')) fun _ _ x => x)))))
      | (refine wpAny_bind (wpAny_rule ?_); show wpAny _ _ (standAt i.pos >>= _) _ _ s; exact wpAny_bind (wpAny_standAt (wpAny_bind (wpAny_mono h (fun it' s' h' => wpAny_pure (And.intro (q2 it') h')) fun _ _ x => x))))
end
end Sd
set_option Elab.async false
set_option linter.all false
set_option maxRecDepth 100000
set_option maxHeartbeats 4000000
set_option autoImplicit false
/-! Sd: targets, iterables, list comprehensions. -/
namespace Sd
open PySem PySem.Spec PyProof.Rows L2

inductive Tgt where
  | nm (i : Nat)
  | tup (ts : List Tgt)
mutual
def assignT : Tgt → D → Ev → Option Ev
  | .nm i, d, ρ => some (ρ.set i (some (.val d)))
  | .tup ts, .tuple ds, ρ => assignTs ts ds ρ
  | .tup _, _, _ => none
def assignTs : List Tgt → List D → Ev → Option Ev
  | [], [], ρ => some ρ
  | t :: ts, d :: ds, ρ => (assignT t d ρ).bind fun ρ' => assignTs ts ds ρ'
  | [], _ :: _, _ => none
  | _ :: _, [], _ => none
end
mutual
def Tgt.slots : Tgt → List Nat
  | .nm i => [i]
  | .tup ts => slotss ts
def slotss : List Tgt → List Nat
  | [] => []
  | t :: ts => t.slots ++ slotss ts
end
def wipeE (ρ : Ev) : List Nat → Ev
  | [] => ρ
  | v :: vs => (wipeE ρ vs).set v none
theorem wipeE_length (ρ : Ev) : ∀ vs : List Nat, (wipeE ρ vs).length = ρ.length
  | [] => rfl
  | v :: vs => by unfold wipeE; rw [List.length_set, wipeE_length ρ vs]
theorem wipeE_some {ρ : Ev} {i : Nat} {x : Sl} : ∀ {vs : List Nat}, (wipeE ρ vs)[i]? = some (some x) → ρ[i]? = some (some x) ∧ i ∉ vs
  | [], h => ⟨h, by simp⟩
  | v :: vs, h => by
    unfold wipeE at h
    rcases set_some_of h with ⟨_, e⟩ | ⟨hne, h⟩
    · cases e
    · obtain ⟨h1, h2⟩ := wipeE_some h
      exact ⟨h1, by simp only [List.mem_cons, not_or]; exact ⟨hne, h2⟩⟩

section
variable {c : Cn} {T : Fx} {W : WX} {O : Addr → Prop} {G H : Hp} {σ σ' : St} {ρ ρ' : Ev}
/-- fewer slots known -/
theorem Hold.weak (h : Hold c T O G σ H ρ) (hl : σ'.length = σ.length) (hr : ρ'.length = ρ.length) (hL : ∀ p ∈ T.L, σ'[p.1]? = some (some (.ref p.2)))
    (w : ∀ (i : Nat) s, ρ'[i]? = some (some s) → ρ[i]? = some (some s) ∧ σ'[i]? = σ[i]?) : Hold c T O G σ' H ρ' where
  sub := h.sub
  ntb := h.ntb
  oin := h.oin
  tab := h.tab
  lnt := hL
  len := by rw [hr, h.len, hl]
  slot := fun i s hi => by
    obtain ⟨h1, h2⟩ := w i s hi
    rw [h2]
    exact h.slot i s h1
  apart := fun i j o o' a hij hi hj ha => by
    obtain ⟨h1, h2⟩ := w i _ hi
    obtain ⟨h3, h4⟩ := w j _ hj
    rw [h4]
    rw [h2] at ha
    exact h.apart i j o o' a hij h1 h3 ha
theorem Hold.wiped (h : Hold c T O G σ' H ρ) {vs : List Nat} (hl : σ.length = σ'.length) (hL : ∀ p ∈ T.L, σ[p.1]? = some (some (.ref p.2))) (hs : ∀ i, i ∉ vs → σ'[i]? = σ[i]?) : Hold c T O G σ H (wipeE ρ vs) :=
  h.weak hl (wipeE_length _ _) hL fun i s e => by
    obtain ⟨h1, h2⟩ := wipeE_some e
    exact ⟨h1, (hs i h2).symm⟩
/-- a slot takes a datum -/
theorem Hold.setV {i : Nat} {v : V} {d : D} (h : Hold c T O G σ H ρ) (r : Rep c G v d) (hL : ∀ p ∈ T.L, p.1 ≠ i) : Hold c T O G (σ.set i (some v)) H (ρ.set i (some (.val d))) where
  sub := h.sub
  ntb := h.ntb
  oin := h.oin
  tab := h.tab
  lnt := fun p hp => by rw [List.getElem?_set_ne (Ne.symm (hL p hp))]; exact h.lnt p hp
  len := by rw [List.length_set, List.length_set]; exact h.len
  slot := fun j s hj => by
    rcases set_some_of hj with ⟨rfl, hs⟩ | ⟨hne, hj'⟩
    · cases hs
      refine ⟨v, ?_, r⟩
      have : j < (ρ.set j (some (Sl.val d))).length := (List.getElem?_eq_some_iff.mp hj).1
      rw [List.length_set, h.len] at this
      rw [List.getElem?_set_self this]
    · rw [List.getElem?_set_ne (Ne.symm hne)]
      exact h.slot j s hj'
  apart := fun j l o o' a hjl hj hl ha => by
    rcases set_some_of hj with ⟨_, hs⟩ | ⟨hne, hj⟩
    · cases hs
    · rcases set_some_of hl with ⟨_, hs⟩ | ⟨hne2, hl⟩
      · cases hs
      · rw [List.getElem?_set_ne (Ne.symm hne)] at ha
        rw [List.getElem?_set_ne (Ne.symm hne2)]
        exact h.apart j l o o' a hjl hj hl ha
end

section
variable (c : Cn) (T : Fx) (W : WX)
/-- the reading of a target -/
def dG (t : Tgt) : TG := fun v σ H Q => ∃ O G ρ d, Hold c T O G σ H ρ ∧ Rep c G v d ∧ ∃ ρ', assignT t d ρ = some ρ' ∧
  ∀ σ', (∀ i, i ∉ t.slots → σ'[i]? = σ[i]?) → σ'.length = σ.length → Hold c T O G σ' H ρ' → Q σ' H
def dGs (ts : List Tgt) : TGs := fun vs σ H Q => ∃ O G ρ ds, Hold c T O G σ H ρ ∧ Reps c G vs ds ∧ ∃ ρ', assignTs ts ds ρ = some ρ' ∧
  ∀ σ', (∀ i, i ∉ slotss ts → σ'[i]? = σ[i]?) → σ'.length = σ.length → Hold c T O G σ' H ρ' → Q σ' H
end
theorem impPG {X : Cx} {e : Expr} {t t' : TG} (h : PG X e t) (i : ∀ v σ H Q, t' v σ H Q → t v σ H Q) : PG X e t' := ⟨fun pins s σ H v u Q I r q => h.run pins s σ H v u Q I r (i v σ H Q q)⟩
theorem impPGs {X : Cx} {e : List Expr} {t t' : TGs} (h : PGs X e t) (i : ∀ v σ H Q, t' v σ H Q → t v σ H Q) : PGs X e t' := ⟨fun pins s σ H v u Q I r q => h.run pins s σ H v u Q I r (i v σ H Q q)⟩
def noStar : Expr → Bool
  | .Starred .. => false
  | _ => true
theorem starEach_cons {e : Expr} {es : List Expr} {env : PySem.Env} (h : noStar e = true) : starEach (e :: es) env = (false, eval e env) :: starEach es env := by
  cases e <;> first | rfl | (simp [noStar] at h)
theorem assignEach_cons {e : Expr} {es : List Expr} {env : PySem.Env} (h : noStar e = true) : assignEach (e :: es) env = (false, assign e env) :: assignEach es env := by
  cases e <;> first | rfl | (simp [noStar] at h)
theorem assignEach_length {env : PySem.Env} : ∀ es : List Expr, (assignEach es env).length = es.length
  | [] => rfl
  | e :: es => by
    have := assignEach_length (env := env) es
    cases e <;> simp [assignEach, this]
theorem assignEach_star {env : PySem.Env} : ∀ es : List Expr, es.all noStar = true → (assignEach es env).findIdx? (·.1) = none
  | [], _ => rfl
  | e :: es, h => by
    simp only [List.all_cons, Bool.and_eq_true] at h
    rw [assignEach_cons h.1, List.findIdx?_cons]
    simp [assignEach_star es h.2]
section
variable {X : Cx} {T : Fx} {W : WX}
theorem pg_nm {i : Nat} {x : Str} {pos : Pos} (hN : X.N.Nodup) (hi : X.N[i]? = some x) (hx : Loc X.env.scope x) (hf : X.fn x = true ∨ X.env.scope.names.lookup x = some .local) (hL : ∀ p ∈ T.L, p.1 ≠ i) : PG X (.Name x pos) (dG (cnOf X) T (.nm i)) :=
  impPG (pg_name hN hi hx hf) fun v σ H Q h => by
    obtain ⟨O, G, ρ, d, hold, r, ρ', e, k⟩ := h
    unfold assignT at e
    cases e
    refine k _ (fun j hj => ?_) (by rw [List.length_set]) (hold.setV r hL)
    rw [List.getElem?_set_ne]
    intro z
    subst z
    exact hj (by simp [Tgt.slots])
theorem pg_tp {es : List Expr} {kk : Nat} {pos : Pos} {ts : List Tgt} (hc : X.calm = true) (hst : es.all noStar = true) (h : PGs X es (dGs (cnOf X) T ts)) (hlen : es.length = ts.length) : PG X (.Tuple es kk pos) (dG (cnOf X) T (.tup ts)) := by
  refine impPG (pg_tup (n := es.length) hc h (assignEach_length es) (assignEach_star es hst)) fun v σ H Q h => ?_
  obtain ⟨O, G, ρ, d, hold, r, ρ', e, k⟩ := h
  cases d with
  | tuple ds =>
    unfold assignT at e
    cases r with
    | tup q rs =>
      rename_i a vs
      refine ⟨a, vs, rfl, sqt_mono hold.sub q, ?_, O, G, ρ, ds, hold, rs, ρ', e, k⟩
      rw [rs.length, hlen]
      have : ∀ (ts : List Tgt) (ds : List D) (ρ ρ' : Ev), assignTs ts ds ρ = some ρ' → ds.length = ts.length := by
        intro ts
        induction ts with
        | nil => intro ds ρ ρ' h; cases ds <;> simp [assignTs] at h ⊢
        | cons t ts ih =>
          intro ds ρ ρ' h
          cases ds with
          | nil => simp [assignTs] at h
          | cons d ds =>
            simp only [assignTs] at h
            cases q : assignT t d ρ with
            | none => rw [q] at h; cases h
            | some ρ1 =>
              rw [q] at h
              simp only [List.length_cons]
              rw [ih ds ρ1 ρ' h]
      exact this _ _ _ _ e
  | _ => simp [assignT] at e
theorem pgs_n : PGs X [] (dGs (cnOf X) T []) := impPGs pgs_nil fun vs σ H Q h => by
  obtain ⟨O, G, ρ, ds, hold, r, ρ', e, k⟩ := h
  cases r with
  | nil =>
    simp only [assignTs] at e
    cases e
    exact ⟨rfl, k σ (fun _ _ => rfl) rfl hold⟩
  | cons _ _ => simp [assignTs] at e
theorem pgs_c {e : Expr} {es : List Expr} {t : Tgt} {ts : List Tgt} (hst : noStar e = true) (h1 : PG X e (dG (cnOf X) T t)) (h2 : PGs X es (dGs (cnOf X) T ts)) : PGs X (e :: es) (dGs (cnOf X) T (t :: ts)) :=
  impPGs (pgs_cons h1 h2 (by rw [assignEach_cons hst]; rfl)) fun vs σ H Q h => by
    obtain ⟨O, G, ρ, ds, hold, r, ρ', e, k⟩ := h
    cases r with
    | nil => simp [assignTs] at e
    | cons r rs =>
      rename_i v vs d ds
      simp only [assignTs] at e
      cases q : assignT t d ρ with
      | none => rw [q] at e; cases e
      | some ρ1 =>
        rw [q] at e
        refine ⟨v, vs, rfl, O, G, ρ, d, hold, r, ρ1, q, fun σ1 hs1 hl1 hold1 => ?_⟩
        refine ⟨O, G, ρ1, ds, hold1, rs, ρ', e, fun σ2 hs2 hl2 hold2 => ?_⟩
        refine k σ2 (fun i hi => ?_) (hl2.trans hl1) hold2
        simp only [slotss, List.mem_append, not_or] at hi
        rw [hs2 i hi.2, hs1 i hi.1]
end

/-! ### iterables -/
/-- an iterator that hands out the items -/
structure IterOk (c : Cn) (J : It) (G0 : Hp) (items : List D) : Prop where
  go : ∀ (G H : Hp) (i : Nat), Same G0 G → Same G H → i < items.length → J.go i H
  yld : ∀ (G H : Hp) (i : Nat) (x : V) (H' : Hp), Same G0 G → Same G H → (∀ a ps, G a ≠ some (.tbl ps)) → i < items.length → J.yld i H x H' → ∃ d G', items[i]? = some d ∧ TrN G H G' H' ∧ Rep c G' x d
  stop : ∀ (G H : Hp) (i : Nat), Same G0 G → Same G H → items.length ≤ i → J.stop i H
theorem IterOk.mono {c : Cn} {J : It} {G0 G1 : Hp} {items : List D} (h : IterOk c J G0 items) (s : Same G0 G1) : IterOk c J G1 items :=
  ⟨fun G H i a b d => h.go G H i (s.trans a) b d, fun G H i x H' a b e l d => h.yld G H i x H' (s.trans a) b e l d, fun G H i a b d => h.stop G H i (s.trans a) b d⟩
def dI (c : Cn) (T : Fx) (W : WX) (f : M (List D)) : TI := fun σ H R => ∃ O G ρ, Hold c T O G σ H ρ ∧ match f ρ with
  | .ok items ρ' => ∀ J G' H', Tr O G H G' H' → Hold c T O G' σ H' ρ' → IterOk c J G' items → R J H'
  | .exc e ρ' => ∀ G' H', Tr O G H G' H' → Hold c T O G' σ H' ρ' → W e σ H'
  | .bad => False
theorem impPI {X : Cx} {tg e : Expr} {t t' : TI} (h : PI X tg e t) (i : ∀ σ H R, t' σ H R → t σ H R) : PI X tg e t' := ⟨fun pins s σ H R I q => h.run pins s σ H R I (i σ H R q)⟩

/-! ### comprehensions -/
structure DCl where
  it : M (List D)
  tg : Tgt
  cond : M Bool
def compItems {E : Type} (tg : Tgt) (cond : M Bool) (body : M (List E)) : List D → M (List E)
  | [] => fun ρ => .ok [] ρ
  | d :: ds => fun ρ => match assignT tg d ρ with
    | none => .bad
    | some ρ1 => (cond ρ1).bind fun b ρ2 => (if b = true then body ρ2 else .ok [] ρ2).bind fun xs ρ3 => (compItems tg cond body ds (wipeE ρ3 tg.slots)).bind fun ys ρ4 => .ok (xs ++ ys) ρ4
def compGo {E : Type} (emit : M (List E)) : List DCl → M (List E)
  | [] => emit
  | cl :: cls => fun ρ => (cl.it ρ).bind fun items ρ1 => compItems cl.tg cl.cond (compGo emit cls) items ρ1
def emit1 (f : M Sl) : M (List D) := fun ρ => (f ρ).bind fun r ρ' => .ok [r.frz] ρ'

/-- a clause in its block -/
structure ClOk (X : Cx) (T : Fx) (W : WX) (cl : Comprehension) (dc : DCl) : Prop where
  as : cl.is_async = 0
  pg : PG X cl.target (dG (cnOf X) T dc.tg)
  pt : PTs X cl.ifs (dB (cnOf X) T W dc.cond)
structure ClIn (X : Cx) (T : Fx) (W : WX) (cl : Comprehension) (dc : DCl) : Prop extends ClOk X T W cl dc where
  pi : PI X cl.target cl.iter (dI (cnOf X) T W dc.it)
  fd : ∀ x, foldedSetIterable cl.iter X.env x = pure x
inductive ClIns (X : Cx) (T : Fx) (W : WX) : List Comprehension → List DCl → Prop
  | nil : ClIns X T W [] []
  | cons {cl : Comprehension} {cls : List Comprehension} {dc : DCl} {dcs : List DCl} : ClIn X T W cl dc → ClIns X T W cls dcs → ClIns X T W (cl :: cls) (dc :: dcs)
def allSlots : List DCl → List Nat
  | [] => []
  | d :: ds => d.tg.slots ++ allSlots ds

theorem TrN.ofTr {c : Cn} {T : Fx} {O : Addr → Prop} {G H : Hp} {σ : St} {ρ : Ev} (h : Hold c T O G σ H ρ) : Same G H := h.sub
end Sd
set_option Elab.async false
set_option linter.all false
set_option maxRecDepth 100000
set_option maxHeartbeats 4000000
set_option autoImplicit false
/-! Sd: list and dict comprehensions: the loops. -/
namespace Sd
open PySem PySem.Spec PyProof.Rows L2

/-- what a comprehension fills at Dd -/
structure Acc (Dd : Addr) (E : Type) where
  P : Hp → Hp → List E → Prop
  mono : ∀ {G G' H H' : Hp} {out : List E}, Same G G' → H' Dd = H Dd → P G H out → P G' H' out
  there : ∀ {G H : Hp} {out : List E}, P G H out → ∃ u, H Dd = some u ∧ ∀ ps, u ≠ .tbl ps
def LcAt (X : Cx) (T : Fx) (pins : List (Addr × Obj)) (O : Addr → Prop) (G0 H0 : Hp) (σ : St) (ρ : Ev) {Dd : Addr} {E : Type} (A : Acc Dd E) (out : List E) (s : Shared) : Prop :=
  ∃ H G, Inv X pins σ H s ∧ Hold (cnOf X) T O G σ H ρ ∧ Tr (fun a => O a ∨ a = Dd) G0 H0 G H ∧ G Dd = none ∧ A.P G H out
theorem thnX {α : Type} {t : Sem α} {Q Q' : α → Shared → Prop} {M : Model} {A : Around} {E E' : Value → Shared → Prop} {s : Shared} (h : wpAny M A t Q E s) (hE : ∀ e s, ¬ E e s) (hQ : ∀ a s, Q a s → Q' a s) : wpAny M A t Q' E' s :=
  wpAny_mono h hQ fun e s z => (hE e s z).elim
theorem Tr.keepD {O : Addr → Prop} {G H G' H' : Hp} {Dd : Addr} {u : HO} (t : Tr O G H G' H') (hO : ¬ O Dd) (hu : H Dd = some u) (ht : ∀ ps, u ≠ .tbl ps) (hg : G Dd = none) : H' Dd = some u ∧ G' Dd = none := by
  refine ⟨t.k Dd u hu hO ht, ?_⟩
  cases q : G' Dd with
  | none => rfl
  | some o =>
    rcases t.n Dd o q with z | z | z
    · rw [hg] at z; cases z
    · rw [hu] at z; cases z
    · exact (hO z).elim
section
variable {X : Cx} {T : Fx} {e : Expr} {gens : List Comprehension} {emitV : Value → PySem.Env → Sem Unit} {Dd : Addr} {E : Type} {A : Acc Dd E} {emit : M (List E)}
theorem Acc.step {O : Addr → Prop} {G H G' H' : Hp} {out : List E} (t : Tr O G H G' H') (hO : ¬ O Dd) (hg : G Dd = none) (p : A.P G H out) : A.P G' H' out ∧ G' Dd = none := by
  obtain ⟨u, hu, ht⟩ := A.there p
  obtain ⟨h1, h2⟩ := t.keepD hO hu ht hg
  exact ⟨A.mono t.g (h1.trans hu.symm) p, h2⟩
/-- what the element's emission does -/
def EmitOk (X : Cx) (T : Fx) (A : Acc Dd E) (emitV : Value → PySem.Env → Sem Unit) (emit : M (List E)) : Prop :=
  ∀ (pins : List (Addr × Obj)) (s : Shared) (σ : St) (H : Hp) (O : Addr → Prop) (G : Hp) (ρ : Ev) (out r : List E) (ρ' : Ev), Inv X pins σ H s → Hold (cnOf X) T O G σ H ρ → ¬ O Dd → G Dd = none → A.P G H out → emit ρ = .ok r ρ' → (out ++ r).length ≤ sizeLine →
    wpAny (model X.prog X.w) X.A (emitV (.ref Dd) X.env) (fun _ s' => LcAt X T pins O G H σ ρ' A (out ++ r) s') (fun _ _ => False) s

theorem loop_comp (C : CE e gens emitV) (hc : X.calm = true) (hxe : ∀ u s, ¬ X.xe u s) (hem : EmitOk X T A emitV emit) :
    ∀ (cls : List Comprehension) (dcs : List DCl) (cl : Comprehension) (dc : DCl) (k : Nat), (∀ j, gens[k + j]? = (cl :: cls)[j]?) → ClOk X T W0 cl dc → ClIns X T W0 cls dcs → (dc.tg.slots ++ allSlots dcs).Nodup →
    ∀ (pins : List (Addr × Obj)) (s : Shared) (σ : St) (H : Hp) (O : Addr → Prop) (G : Hp) (ρ : Ev) (out xs : List E) (ρ' : Ev) (items : List D) (it : Addr) (fp : List Addr) (tn : Nat → Heap → Prop) (J : It),
      Inv X pins σ H s → Hold (cnOf X) T O G σ H ρ → ¬ O Dd → G Dd = none → A.P G H out →
      Turn X.prog X.w X.K cl.target J fp it tn → tn 0 s.heap → (∀ b ∈ fp, FpOk X pins H b) → IterOk (cnOf X) J G items →
      (∀ i ∈ dc.tg.slots ++ allSlots dcs, ∀ v, σ[i]? ≠ some (some v)) →
      compItems dc.tg dc.cond (compGo emit dcs) items ρ = .ok xs ρ' → (out ++ xs).length ≤ sizeLine →
      codeAny (model X.prog X.w) X.A (.compLoop e k (.ref it) (.ref Dd) X.env) (fun r s' => match r with | .ok _ => LcAt X T pins O G H σ ρ' A (out ++ xs) s' | .error _ => False) s := by
  intro cls
  induction cls with
  | nil =>
    intro dcs cl dc k hk ok hin nd pins s σ H O G ρ out xs ρ' items it fp tn J I hold hO hg hp Tn st hf io hσ hce hz
    cases hin
    obtain ⟨t, i0, ifs, as⟩ := cl
    obtain ⟨has, pg, pt⟩ := ok
    cases has
    have hk0 : gens[k]? = some ⟨t, i0, ifs, 0⟩ := by have := hk 0; simpa using this
    have hk1 : gens[k + 1]? = none := by have := hk 1; simpa using this
    have fpok : ∀ H', (∀ b ∈ fp, H' b = none) → ∀ b ∈ fp, FpOk X pins H' b := fun H' hn b hb => ⟨hn b hb, (hf b hb).2⟩
    refine compLoop_in C hk0 hk1 (fun n s' => ∃ (i : Nat) (H' G' : Hp) (ρi : Ev) (ys zs : List E), n = items.length - i ∧ i ≤ items.length ∧ Inv X pins σ H' s' ∧ tn i s'.heap ∧ (∀ b ∈ fp, H' b = none) ∧ Hold (cnOf X) T O G' σ H' ρi ∧
      Tr (fun a => O a ∨ a = Dd) G H G' H' ∧ Same G G' ∧ G' Dd = none ∧ A.P G' H' (out ++ ys) ∧ compItems dc.tg dc.cond (compGo emit []) (items.drop i) ρi = .ok zs ρ' ∧ ys ++ zs = xs) ?_ items.length
      ⟨0, H, G, ρ, [], xs, by simp, Nat.zero_le _, I, st, fun b hb => (hf b hb).1, hold, .refl, fun _ _ h => h, hg, by simpa using hp, by simpa using hce, rfl⟩
    rintro n s' ⟨i, H', G', ρi, ys, zs, rfl, hi, I', st', fn', hold', tr', sg', hg', hp', hce', hxs⟩
    by_cases hlt : i < items.length
    · have hd : items.drop i = items[i] :: items.drop (i + 1) := List.drop_eq_getElem_cons hlt
      rw [hd] at hce'
      simp only [compItems] at hce'
      cases q1 : assignT dc.tg items[i] ρi with
      | none => rw [q1] at hce'; cases hce'
      | some ρ1 =>
      rw [q1] at hce'
      simp only at hce'
      refine thnX (Tn.item X rfl rfl rfl hc i pins s' σ H' (fun _ _ => False) I' (fpok H' fn') st' (io.go G' H' i sg' hold'.sub hlt)) (fun _ _ z => z) fun r s1 ⟨u, hr, h1⟩ => ?_
      subst hr
      refine thnX h1 (fun _ _ z => z) fun _ s2 ⟨x, H2, I2, r2, y2, st2, fn2⟩ => ?_
      obtain ⟨d, G2, hid, tn2, rep2⟩ := io.yld G' H' i x H2 sg' hold'.sub hold'.ntb hlt y2
      have hdd : d = items[i] := by rw [List.getElem?_eq_getElem hlt] at hid; exact (Option.some.inj hid).symm
      subst hdd
      have hold2 := hold'.trn tn2
      obtain ⟨p2, g2⟩ := Acc.step (O := O) tn2.tr hO hg' hp'
      have I2' := I2.pinned (fpok H2 fn2) (Tn.obj _ _ st2)
      refine thnX (pg.run _ s2 σ H2 x u (fun σ3 H3 => H3 = H2 ∧ (∀ j, j ∉ dc.tg.slots → σ3[j]? = σ[j]?) ∧ σ3.length = σ.length ∧ Hold (cnOf X) T O G2 σ3 H2 ρ1) I2' r2 ⟨O, G2, ρi, items[i], hold2, rep2, ρ1, q1, fun σ3 h1 h2 h3 => ⟨rfl, h1, h2, h3⟩⟩) hxe fun _ s3 ⟨σ3, H3, I3, e3, hs3, hl3, hold3⟩ => ?_
      subst e3
      -- the tests
      cases q2 : dc.cond ρ1 with
      | bad => rw [q2] at hce'; cases hce'
      | exc x ρx => rw [q2] at hce'; cases hce'
      | ok b ρ2 =>
      rw [q2] at hce'
      simp only [Res.bind_ok] at hce'
      refine thnX (pt.run _ s3 σ3 H3 (fun b' H4 => b' = b ∧ ∃ G4, Tr O G2 H3 G4 H4 ∧ Hold (cnOf X) T O G4 σ3 H4 ρ2) I3 ⟨O, G2, ρ1, hold3, by rw [q2]; exact fun G4 H4 t4 h4 => ⟨rfl, G4, t4, h4⟩⟩) hxe fun b' s4 ⟨H4, I4, e4, G4, tr4, hold4⟩ => ?_
      subst e4
      obtain ⟨p4, g4⟩ := Acc.step tr4 hO g2 p2
      have trA : Tr (fun a => O a ∨ a = Dd) G H G4 H4 := (tr'.trans' tn2.tr).trans' (tr4.wider fun _ h => .inl h)
      have sgA : Same G G4 := (sg'.trans tn2.g).trans tr4.g
      -- back at the turn's end
      have fin : ∀ {s5 : Shared} {ρ5 : Ev} {rs zs' : List E}, LcAt X T (pins ++ pinsAt fp s2.heap) O G4 H4 σ3 ρ5 A (out ++ ys ++ rs) s5 → compItems dc.tg dc.cond (compGo emit []) (items.drop (i + 1)) (wipeE ρ5 dc.tg.slots) = .ok zs' ρ' → ys ++ (rs ++ zs') = xs →
          ∃ m, m < items.length - i ∧ ∃ (i : Nat) (H' G' : Hp) (ρi : Ev) (ys zs : List E), m = items.length - i ∧ i ≤ items.length ∧ Inv X pins σ H' s5 ∧ tn i s5.heap ∧ (∀ b ∈ fp, H' b = none) ∧ Hold (cnOf X) T O G' σ H' ρi ∧
            Tr (fun a => O a ∨ a = Dd) G H G' H' ∧ Same G G' ∧ G' Dd = none ∧ A.P G' H' (out ++ ys) ∧ compItems dc.tg dc.cond (compGo emit []) (items.drop i) ρi = .ok zs ρ' ∧ ys ++ zs = xs := by
        rintro s5 ρ5 rs zs' ⟨H5, G5, I5, hold5, tr5, g5, p5⟩ hcz hxz
        have pin' : ∀ b ∈ fp, ∀ o, s2.heap.get? b = some o → s5.heap.get? b = some o ∧ H5 b = none := fun b hb o eo =>
          let z := I5.pin (b, o) (List.mem_append_right _ (List.mem_append_right _ (mem_pinsAt hb eo)))
          ⟨z.1, z.2.1⟩
        refine ⟨items.length - (i + 1), by omega, i + 1, H5, G5, wipeE ρ5 dc.tg.slots, ys ++ rs, zs', rfl, hlt, I5.unpinned.weak hl3.symm (fun j v ej => ?_), Tn.keep _ _ _ st2 fun b hb o eo => (pin' b hb o eo).1, fun b hb => ?_,
          hold5.wiped hl3.symm hold'.lnt hs3, trA.trans' tr5, sgA.trans tr5.g, g5, by rw [← List.append_assoc]; exact p5, hcz, by rw [List.append_assoc]; exact hxz⟩
        · rw [hs3 j (fun hj => hσ j (List.mem_append_left _ hj) v ej)]
          exact ej
        · obtain ⟨o, eo, _⟩ := Tn.obj _ _ st2 b hb
          exact (pin' b hb o eo).2
      cases b' with
      | false =>
        simp only [Bool.false_eq_true, if_false, Res.bind_ok, List.nil_append] at hce' ⊢
        cases q3 : compItems dc.tg dc.cond (compGo emit []) (items.drop (i + 1)) (wipeE ρ2 dc.tg.slots) with
        | bad => rw [q3] at hce'; cases hce'
        | exc x ρx => rw [q3] at hce'; cases hce'
        | ok zs' ρz =>
          rw [q3] at hce'
          simp only [Res.bind_ok] at hce'
          cases hce'
          exact fin (rs := []) (zs' := zs) ⟨H4, G4, I4, hold4, .refl, g4, by simpa using p4⟩ q3 (by simpa using hxs)
      | true =>
        simp only [if_true] at hce' ⊢
        cases q3 : (compGo emit [] : M (List E)) ρ2 with
        | bad => rw [q3] at hce'; cases hce'
        | exc x ρx => rw [q3] at hce'; cases hce'
        | ok rs ρ5 =>
          rw [q3] at hce'
          simp only [Res.bind_ok] at hce'
          cases q4 : compItems dc.tg dc.cond (compGo emit []) (items.drop (i + 1)) (wipeE ρ5 dc.tg.slots) with
          | bad => rw [q4] at hce'; cases hce'
          | exc x ρx => rw [q4] at hce'; cases hce'
          | ok zs' ρz =>
            rw [q4] at hce'
            simp only [Res.bind_ok] at hce'
            cases hce'
            have hzz : (out ++ ys ++ rs).length ≤ sizeLine := by
              rw [← hxs] at hz
              simp only [List.length_append] at hz ⊢
              omega
            exact thnX (hem _ s4 σ3 H4 O G4 ρ2 (out ++ ys) rs ρ5 I4 hold4 hO g4 p4 q3 hzz) (fun _ _ z => z) fun _ s5 h5 => fin h5 q4 hxs
    · have hi' : i = items.length := by omega
      subst hi'
      rw [List.drop_length] at hce'
      simp only [compItems] at hce'
      cases hce'
      refine thnX (Tn.done X rfl rfl rfl hc _ pins s' σ H' (fun _ _ => False) I' (fpok H' fn') st' (io.stop G' H' _ sg' hold'.sub (Nat.le_refl _))) (fun _ _ z => z) fun r s1 ⟨hr, I1⟩ => ?_
      subst hr
      have : ys = xs := by simpa using hxs
      subst this
      exact ⟨H', G', I1, hold', tr', hg', hp'⟩
  | cons cl1 cls ih =>
    intro dcs cl dc k hk ok hin nd pins s σ H O G ρ out xs ρ' items it fp tn J I hold hO hg hp Tn st hf io hσ hce hz
    cases hin with
    | cons hin1 hins =>
    rename_i dc1 dcs1
    obtain ⟨t, i0, ifs, as⟩ := cl
    obtain ⟨has, pg, pt⟩ := ok
    cases has
    obtain ⟨t1, i1, ifs1, as1⟩ := cl1
    obtain ⟨ok1, pi1, fd1⟩ := id hin1
    have has1 : as1 = 0 := ok1.as
    subst has1
    have hk0 : gens[k]? = some ⟨t, i0, ifs, 0⟩ := by have := hk 0; simpa using this
    have hk1 : gens[k + 1]? = some ⟨t1, i1, ifs1, 0⟩ := by have := hk 1; simpa using this
    have fpok : ∀ H', (∀ b ∈ fp, H' b = none) → ∀ b ∈ fp, FpOk X pins H' b := fun H' hn b hb => ⟨hn b hb, (hf b hb).2⟩
    refine compLoop_out C hk0 hk1 fd1 (fun n s' => ∃ (i : Nat) (H' G' : Hp) (ρi : Ev) (ys zs : List E), n = items.length - i ∧ i ≤ items.length ∧ Inv X pins σ H' s' ∧ tn i s'.heap ∧ (∀ b ∈ fp, H' b = none) ∧ Hold (cnOf X) T O G' σ H' ρi ∧
      Tr (fun a => O a ∨ a = Dd) G H G' H' ∧ Same G G' ∧ G' Dd = none ∧ A.P G' H' (out ++ ys) ∧ compItems dc.tg dc.cond (compGo emit (dc1 :: dcs1)) (items.drop i) ρi = .ok zs ρ' ∧ ys ++ zs = xs) ?_ items.length
      ⟨0, H, G, ρ, [], xs, by simp, Nat.zero_le _, I, st, fun b hb => (hf b hb).1, hold, .refl, fun _ _ h => h, hg, by simpa using hp, by simpa using hce, rfl⟩
    rintro n s' ⟨i, H', G', ρi, ys, zs, rfl, hi, I', st', fn', hold', tr', sg', hg', hp', hce', hxs⟩
    by_cases hlt : i < items.length
    · have hd : items.drop i = items[i] :: items.drop (i + 1) := List.drop_eq_getElem_cons hlt
      rw [hd] at hce'
      simp only [compItems] at hce'
      cases q1 : assignT dc.tg items[i] ρi with
      | none => rw [q1] at hce'; cases hce'
      | some ρ1 =>
      rw [q1] at hce'
      simp only at hce'
      refine thnX (Tn.item X rfl rfl rfl hc i pins s' σ H' (fun _ _ => False) I' (fpok H' fn') st' (io.go G' H' i sg' hold'.sub hlt)) (fun _ _ z => z) fun r s1 ⟨u, hr, h1⟩ => ?_
      subst hr
      refine thnX h1 (fun _ _ z => z) fun _ s2 ⟨x, H2, I2, r2, y2, st2, fn2⟩ => ?_
      obtain ⟨d, G2, hid, tn2, rep2⟩ := io.yld G' H' i x H2 sg' hold'.sub hold'.ntb hlt y2
      have hdd : d = items[i] := by rw [List.getElem?_eq_getElem hlt] at hid; exact (Option.some.inj hid).symm
      subst hdd
      have hold2 := hold'.trn tn2
      obtain ⟨p2, g2⟩ := Acc.step (O := O) tn2.tr hO hg' hp'
      have I2' := I2.pinned (fpok H2 fn2) (Tn.obj _ _ st2)
      refine thnX (pg.run _ s2 σ H2 x u (fun σ3 H3 => H3 = H2 ∧ (∀ j, j ∉ dc.tg.slots → σ3[j]? = σ[j]?) ∧ σ3.length = σ.length ∧ Hold (cnOf X) T O G2 σ3 H2 ρ1) I2' r2 ⟨O, G2, ρi, items[i], hold2, rep2, ρ1, q1, fun σ3 h1 h2 h3 => ⟨rfl, h1, h2, h3⟩⟩) hxe fun _ s3 ⟨σ3, H3, I3, e3, hs3, hl3, hold3⟩ => ?_
      subst e3
      cases q2 : dc.cond ρ1 with
      | bad => rw [q2] at hce'; cases hce'
      | exc x ρx => rw [q2] at hce'; cases hce'
      | ok b ρ2 =>
      rw [q2] at hce'
      simp only [Res.bind_ok] at hce'
      refine thnX (pt.run _ s3 σ3 H3 (fun b' H4 => b' = b ∧ ∃ G4, Tr O G2 H3 G4 H4 ∧ Hold (cnOf X) T O G4 σ3 H4 ρ2) I3 ⟨O, G2, ρ1, hold3, by rw [q2]; exact fun G4 H4 t4 h4 => ⟨rfl, G4, t4, h4⟩⟩) hxe fun b' s4 ⟨H4, I4, e4, G4, tr4, hold4⟩ => ?_
      subst e4
      obtain ⟨p4, g4⟩ := Acc.step tr4 hO g2 p2
      have trA : Tr (fun a => O a ∨ a = Dd) G H G4 H4 := (tr'.trans' tn2.tr).trans' (tr4.wider fun _ h => .inl h)
      have sgA : Same G G4 := (sg'.trans tn2.g).trans tr4.g
      have fin : ∀ {s5 : Shared} {ρ5 : Ev} {rs zs' : List E}, LcAt X T (pins ++ pinsAt fp s2.heap) O G4 H4 σ3 ρ5 A (out ++ ys ++ rs) s5 → compItems dc.tg dc.cond (compGo emit (dc1 :: dcs1)) (items.drop (i + 1)) (wipeE ρ5 dc.tg.slots) = .ok zs' ρ' → ys ++ (rs ++ zs') = xs →
          ∃ m, m < items.length - i ∧ ∃ (i : Nat) (H' G' : Hp) (ρi : Ev) (ys zs : List E), m = items.length - i ∧ i ≤ items.length ∧ Inv X pins σ H' s5 ∧ tn i s5.heap ∧ (∀ b ∈ fp, H' b = none) ∧ Hold (cnOf X) T O G' σ H' ρi ∧
            Tr (fun a => O a ∨ a = Dd) G H G' H' ∧ Same G G' ∧ G' Dd = none ∧ A.P G' H' (out ++ ys) ∧ compItems dc.tg dc.cond (compGo emit (dc1 :: dcs1)) (items.drop i) ρi = .ok zs ρ' ∧ ys ++ zs = xs := by
        rintro s5 ρ5 rs zs' ⟨H5, G5, I5, hold5, tr5, g5, p5⟩ hcz hxz
        have pin' : ∀ b ∈ fp, ∀ o, s2.heap.get? b = some o → s5.heap.get? b = some o ∧ H5 b = none := fun b hb o eo =>
          let z := I5.pin (b, o) (List.mem_append_right _ (List.mem_append_right _ (mem_pinsAt hb eo)))
          ⟨z.1, z.2.1⟩
        refine ⟨items.length - (i + 1), by omega, i + 1, H5, G5, wipeE ρ5 dc.tg.slots, ys ++ rs, zs', rfl, hlt, I5.unpinned.weak hl3.symm (fun j v ej => ?_), Tn.keep _ _ _ st2 fun b hb o eo => (pin' b hb o eo).1, fun b hb => ?_,
          hold5.wiped hl3.symm hold'.lnt hs3, trA.trans' tr5, sgA.trans tr5.g, g5, by rw [← List.append_assoc]; exact p5, hcz, by rw [List.append_assoc]; exact hxz⟩
        · rw [hs3 j (fun hj => hσ j (List.mem_append_left _ hj) v ej)]
          exact ej
        · obtain ⟨o, eo, _⟩ := Tn.obj _ _ st2 b hb
          exact (pin' b hb o eo).2
      cases b' with
      | false =>
        simp only [Bool.false_eq_true, if_false, Res.bind_ok, List.nil_append] at hce' ⊢
        cases q3 : compItems dc.tg dc.cond (compGo emit (dc1 :: dcs1)) (items.drop (i + 1)) (wipeE ρ2 dc.tg.slots) with
        | bad => rw [q3] at hce'; cases hce'
        | exc x ρx => rw [q3] at hce'; cases hce'
        | ok zs' ρz =>
          rw [q3] at hce'
          simp only [Res.bind_ok] at hce'
          cases hce'
          exact fin (rs := []) (zs' := zs) ⟨H4, G4, I4, hold4, .refl, g4, by simpa using p4⟩ q3 (by simpa using hxs)
      | true =>
        simp only [if_true] at hce' ⊢
        cases q3 : (compGo emit (dc1 :: dcs1) : M (List E)) ρ2 with
        | bad => rw [q3] at hce'; cases hce'
        | exc x ρx => rw [q3] at hce'; cases hce'
        | ok rs ρ5 =>
          rw [q3] at hce'
          simp only [Res.bind_ok] at hce'
          cases q4 : compItems dc.tg dc.cond (compGo emit (dc1 :: dcs1)) (items.drop (i + 1)) (wipeE ρ5 dc.tg.slots) with
          | bad => rw [q4] at hce'; cases hce'
          | exc x ρx => rw [q4] at hce'; cases hce'
          | ok zs' ρz =>
            rw [q4] at hce'
            simp only [Res.bind_ok] at hce'
            cases hce'
            have hzz : (out ++ ys ++ rs).length ≤ sizeLine := by
              rw [← hxs] at hz
              simp only [List.length_append] at hz ⊢
              omega
            -- the inner source
            simp only [compGo] at q3
            cases q5 : dc1.it ρ2 with
            | bad => rw [q5] at q3; cases q3
            | exc x ρx => rw [q5] at q3; cases q3
            | ok items1 ρ6 =>
            rw [q5] at q3
            simp only [Res.bind_ok] at q3
            refine thnX (pi1.run _ s4 σ3 H4 (fun J1 H6 => ∃ G6, Tr O G4 H4 G6 H6 ∧ Hold (cnOf X) T O G6 σ3 H6 ρ6 ∧ IterOk (cnOf X) J1 G6 items1) I4 ⟨O, G4, ρ2, hold4, by rw [q5]; exact fun J1 G6 H6 t6 h6 i6 => ⟨G6, t6, h6, i6⟩⟩) hxe fun xv s6 h6 => ?_
            refine thnX h6 hxe fun itv s7 h7 => ?_
            obtain ⟨it1, fp1, tn1, J1, H6, e1, I7, T1, st7, f7, G6, tr6, hold6, io1⟩ := h7
            subst e1
            obtain ⟨p6, g6⟩ := Acc.step tr6 hO g4 p4
            have nd2 : (dc1.tg.slots ++ allSlots dcs1).Nodup := (List.nodup_append.mp nd).2.1
            have hσ1 : ∀ j ∈ dc1.tg.slots ++ allSlots dcs1, ∀ v, σ3[j]? ≠ some (some v) := fun j hj v => by
              have hj' : j ∈ allSlots (dc1 :: dcs1) := hj
              rw [hs3 j (fun hm => (List.nodup_append.mp nd).2.2 j hm j hj' rfl)]
              exact hσ j (List.mem_append_right _ hj') v
            have loop := ih dcs1 ⟨t1, i1, ifs1, 0⟩ dc1 (k + 1) (fun j => by have := hk (j + 1); rw [show k + 1 + j = k + (j + 1) by omega]; simpa using this) ok1 hins nd2
              (pins ++ pinsAt fp s2.heap) s7 σ3 H6 O G6 ρ6 (out ++ ys) rs ρ5 items1 it1 fp1 tn1 J1 I7 hold6 hO g6 p6 T1 st7 f7 io1 hσ1 q3 hzz
            have loop' : codeAny (model X.prog X.w) X.A (.compLoop e (k + 1) (.ref it1) (.ref Dd) X.env) (fun r s' => match r with
                | .ok _ => ∃ m, m < items.length - i ∧ ∃ (i : Nat) (H' G' : Hp) (ρi : Ev) (ys zs : List E), m = items.length - i ∧ i ≤ items.length ∧ Inv X pins σ H' s' ∧ tn i s'.heap ∧ (∀ b ∈ fp, H' b = none) ∧ Hold (cnOf X) T O G' σ H' ρi ∧
                    Tr (fun a => O a ∨ a = Dd) G H G' H' ∧ Same G G' ∧ G' Dd = none ∧ A.P G' H' (out ++ ys) ∧ compItems dc.tg dc.cond (compGo emit (dc1 :: dcs1)) (items.drop i) ρi = .ok zs ρ' ∧ ys ++ zs = xs
                | .error _ => False) s7 := codeAny_mono loop fun r s8 h8 => by
              cases r with
              | error _ => exact h8
              | ok f =>
                obtain ⟨H8, G8, I8, hold8, tr8, g8, p8⟩ := h8
                exact fin ⟨H8, G8, I8, hold8, (tr6.wider fun _ h => .inl h).trans' tr8, g8, p8⟩ q4 hxs
            exact compStart_of C hk1 loop' (T1.self X.A 0 _ _ _ st7 loop')
    · have hi' : i = items.length := by omega
      subst hi'
      rw [List.drop_length] at hce'
      simp only [compItems] at hce'
      cases hce'
      refine thnX (Tn.done X rfl rfl rfl hc _ pins s' σ H' (fun _ _ => False) I' (fpok H' fn') st' (io.stop G' H' _ sg' hold'.sub (Nat.le_refl _))) (fun _ _ z => z) fun r s1 ⟨hr, I1⟩ => ?_
      subst hr
      have : ys = xs := by simpa using hxs
      subst this
      exact ⟨H', G', I1, hold', tr', hg', hp'⟩
end
end Sd
set_option Elab.async false
set_option linter.all false
set_option maxRecDepth 100000
set_option maxHeartbeats 4000000
set_option autoImplicit false
/-! Sd: list and dict comprehensions as wholes. -/
namespace Sd
open PySem PySem.Spec PyProof.Rows L2

def keepV : Option Sl → Option Sl
  | some (.val d) => some (.val d)
  | _ => none
def restoreE (ρ1 ρ2 : Ev) : List Nat → Ev
  | [] => ρ2
  | v :: vs => (restoreE ρ1 ρ2 vs).set v (keepV (ρ1[v]?.getD none))
theorem restoreE_length (ρ1 ρ2 : Ev) : ∀ vs : List Nat, (restoreE ρ1 ρ2 vs).length = ρ2.length
  | [] => rfl
  | v :: vs => by unfold restoreE; rw [List.length_set, restoreE_length ρ1 ρ2 vs]
theorem restoreE_some {ρ1 ρ2 : Ev} {i : Nat} {x : Sl} : ∀ {vs : List Nat}, (restoreE ρ1 ρ2 vs)[i]? = some (some x) → (i ∉ vs ∧ ρ2[i]? = some (some x)) ∨ (i ∈ vs ∧ ρ1[i]? = some (some x) ∧ ∃ d, x = .val d)
  | [], h => .inl ⟨by simp, h⟩
  | v :: vs, h => by
    unfold restoreE at h
    rcases set_some_of h with ⟨rfl, e⟩ | ⟨hne, h⟩
    · right
      refine ⟨List.mem_cons_self, ?_⟩
      cases q : ρ1[i]? with
      | none => rw [q] at e; simp [keepV] at e
      | some o =>
        rw [q] at e
        cases o with
        | none => simp [keepV] at e
        | some s =>
          cases s with
          | own o => simp [keepV] at e
          | val d =>
            simp only [Option.getD_some, keepV, Option.some.injEq] at e
            subst e
            exact ⟨rfl, d, rfl⟩
    · rcases restoreE_some h with ⟨h1, h2⟩ | ⟨h1, h2⟩
      · exact .inl ⟨by simp only [List.mem_cons, not_or]; exact ⟨hne, h1⟩, h2⟩
      · exact .inr ⟨List.mem_cons_of_mem _ h1, h2⟩
theorem wipe_some_iff {σ : St} {i : Nat} {x : V} {vs : List Nat} (h : (wipe σ vs)[i]? = some (some x)) : σ[i]? = some (some x) := (wipe_some h).1
theorem Hold.wipeS {c : Cn} {T : Fx} {O : Addr → Prop} {G H : Hp} {σ : St} {ρ : Ev} (h : Hold c T O G σ H ρ) (vs : List Nat) (hL : ∀ p ∈ T.L, p.1 ∉ vs) : Hold c T O G (wipe σ vs) H (wipeE ρ vs) :=
  h.weak (wipe_length _ _) (wipeE_length _ _) (fun p hp => by rw [wipe_out (hL p hp)]; exact h.lnt p hp) fun i s e => by
    obtain ⟨h1, h2⟩ := wipeE_some e
    exact ⟨h1, wipe_out h2⟩
theorem Hold.restore {c : Cn} {T : Fx} {O : Addr → Prop} {G G' H H' : Hp} {σ : St} {ρ1 ρ2 : Ev} {vs : List Nat} (h1 : Hold c T O G σ H ρ1) (h2 : Hold c T O G' (wipe σ vs) H' ρ2) (hs : Same G G') : Hold c T O G' σ H' (restoreE ρ1 ρ2 vs) where
  sub := h2.sub
  ntb := h2.ntb
  oin := h2.oin
  tab := h2.tab
  lnt := h1.lnt
  len := by rw [restoreE_length, h2.len, wipe_length]
  slot := fun i s hi => by
    rcases restoreE_some hi with ⟨hn, hi⟩ | ⟨hm, hi, d, rfl⟩
    · obtain ⟨v, e, q⟩ := h2.slot i s hi
      exact ⟨v, (wipe_some e).1, q⟩
    · obtain ⟨v, e, q⟩ := h1.slot i _ hi
      exact ⟨v, e, Rep.mono hs q⟩
  apart := fun i j o o' a hij hi hj ha => by
    rcases restoreE_some hi with ⟨hn, hi⟩ | ⟨_, _, d, hd⟩
    · rcases restoreE_some hj with ⟨hn', hj⟩ | ⟨_, _, d, hd⟩
      · have := h2.apart i j o o' a hij hi hj (by rw [wipe_out hn]; exact ha)
        rw [wipe_out hn'] at this
        exact this
      · cases hd
    · cases hd

theorem compPost_ok {M : Model} {A : Around} {E : Value → Shared → Prop} {use : Option (Value → Sem Unit)} {Q : Value → Shared → Prop} {acc : Value} {C : Addr} {f : Flow} {s : Shared} (h : compPost M A E use Q acc C (.ok .next) s) : compPost M A E use Q acc C (.ok f) s := by
  cases use <;> exact h

section
variable {X : Cx} {T : Fx} {W : WX}
/-- a new accumulator -/
def NewOk (X : Cx) (newAcc : Sem Value) (o0 : HO) : Prop := ∀ (pins : List (Addr × Obj)) (s : Shared) (σ : St) (H : Hp) (Q : Value → Shared → Prop) (E : Value → Shared → Prop), Inv X pins σ H s →
  (∀ s3, s3.heap.objs.size = s.heap.objs.size + 1 → (∀ b o, s.heap.get? b = some o → s3.heap.get? b = some o) → s3.gens = s.gens → s3.os = s.os → Inv X pins σ (upd H s.heap.objs.size o0) s3 → Q (.ref s.heap.objs.size) s3) → wpAny (model X.prog X.w) X.A newAcc Q E s
theorem new_list : NewOk X (newList []) (.lst []) := fun pins s σ H Q E I h => by
  refine wpAny_newObj_type ?_ (by show 0 ≤ sizeLine; decide)
  refine h _ (Heap.size_push ..) (fun b o e => Heap.get?_push_of_some _ e) rfl rfl (I.laid (t' := s.toks) (fun b o e => Heap.get?_push_of_some _ e) (Nat.le_refl _) ⟨Nat.zero_le _, [], 0, .nil, ?_⟩)
  exact Heap.get?_push_size _ rfl

/-- the blocks of a comprehension -/
abbrev BlkF (X : Cx) (scope : Scope) := ∀ (s : Shared) (H : Hp) (C : Addr) (cl : List (Str × Addr)) (fp : List Addr), Cx
def sComp {E : Type} (fin : List E → Option Ob) (vs : List Nat) (dc : DCl) (dcs : List DCl) (emit : M (List E)) : M Sl := fun ρ => (dc.it ρ).bind fun items ρ1 =>
  match compItems dc.tg dc.cond (compGo emit dcs) items (wipeE ρ1 vs) with
  | .ok xs ρ2 => if xs.length ≤ sizeLine then (match fin xs with | some o => .ok (.own o) (restoreE ρ1 ρ2 vs) | none => .bad) else .bad
  | _ => .bad

theorem comp_core {pins : List (Addr × Obj)} {s : Shared} {σ : St} {H : Hp} {Q : VK} {e : Expr} {gens : List Comprehension} {emitV : Value → PySem.Env → Sem Unit} {newAcc : Sem Value} {o0 : HO} {E : Type} {emit : M (List E)} {fin : List E → Option Ob}
    {tg iter : Expr} {ifs : List Expr} {cls : List Comprehension} {scope : Scope} {own : List (Str × Nat)} {pos' : Pos} {dc : DCl} {dcs : List DCl} {use : Option (Value → Sem Unit)} {Qf : Value → Shared → Prop}
    (C : CE e gens emitV) (hgens : gens = ⟨tg, iter, ifs, 0⟩ :: cls) (A : ∀ Dd, Acc Dd E) (hnew : NewOk X newAcc o0) (h0 : ∀ G H Dd, (A Dd).P G (upd H Dd o0) []) (ho0 : ∀ ps, o0 ≠ .tbl ps)
    (hfin : ∀ G H Dd out o, (A Dd).P G H out → fin out = some o → ObAt (cnOf X) G H Dd o)
    (hc : X.calm = true) (hN : X.N.Nodup) (I : Inv X pins σ H s) (hi : PI X tg iter (dI (cnOf X) T W dc.it)) (ok : BlkOk X.N X.env.scope scope own)
    (hok : ∀ (s : Shared) (H : Hp) (C : Addr) (cl : List (Str × Addr)) (fp : List Addr), ClOk (X.blk s H scope (compEnvC scope cl C X.env) fp) T W0 ⟨tg, iter, ifs, 0⟩ dc)
    (hin : ∀ (s : Shared) (H : Hp) (C : Addr) (cl : List (Str × Addr)) (fp : List Addr), ClIns (X.blk s H scope (compEnvC scope cl C X.env) fp) T W0 cls dcs)
    (hem : ∀ (s : Shared) (H : Hp) (C : Addr) (cl : List (Str × Addr)) (fp : List Addr) (Dd : Addr), EmitOk (X.blk s H scope (compEnvC scope cl C X.env) fp) T (A Dd) emitV emit)
    (hs : ∀ x, foldedSetIterable iter X.env x = pure x) (nd : (dc.tg.slots ++ allSlots dcs).Nodup) (hsub : ∀ i ∈ dc.tg.slots ++ allSlots dcs, i ∈ own.map (·.2)) (hL : ∀ p ∈ T.L, p.1 ∉ own.map (·.2))
    (h : dT (cnOf X) T W (sComp fin (own.map (·.2)) dc dcs emit) σ H Q)
    (hRR : ∀ D C s' m H', Inv X pins σ H' s' → Q (.ref D) H' → s'.heap.Ns C m → FpOk X pins H' C → compPost (model X.prog X.w) X.A X.xe use Qf (.ref D) C (.ok .next) s') :
    wpAny (model X.prog X.w) X.A (comprehension e scope X.env pos' newAcc false (eval iter X.env) use) Qf X.xe s := by
  have hfree : ∀ y ∈ scope.names, y.2 = .free → ∃ c, X.env.cells.lookup y.1 = some c := fun y hy e => by
    rcases ok.free y hy e with k | k
    · exact I.ok.has _ (.inl k)
    · exact I.ok.has _ (.inr k)
  obtain ⟨O, G, ρ, hold, h⟩ := h
  unfold sComp at h
  have hcl : clausesOf e = ⟨tg, iter, ifs, 0⟩ :: cls := by rw [C.cls, hgens]
  cases q1 : dc.it ρ with
  | bad => rw [q1] at h; exact h.elim
  | exc x ρx =>
    rw [q1] at h
    refine wpAny_comprehension_free (use := use) (g := ⟨tg, iter, ifs, 0⟩) hcl hs (closure_ok hfree) ok.kind (fun y hy e => by rw [ok.uniq y hy, e])
      (thn (hi.run pins s σ H (fun _ _ => False) I ⟨O, G, ρ, hold, by rw [q1]; exact h⟩) fun xv s1 hx => thn hx fun itv s2 h2 => ?_)
    obtain ⟨_, _, _, _, _, _, _, _, _, _, z⟩ := h2
    exact z.elim
  | ok items ρ1 =>
  rw [q1] at h
  simp only [Res.bind_ok] at h
  cases q2 : compItems dc.tg dc.cond (compGo emit dcs) items (wipeE ρ1 (own.map (·.2))) with
  | bad => rw [q2] at h; exact h.elim
  | exc x ρx => rw [q2] at h; exact h.elim
  | ok xs ρ2 =>
  rw [q2] at h
  simp only at h
  by_cases hz : xs.length ≤ sizeLine
  rotate_left
  · rw [if_neg hz] at h; exact h.elim
  rw [if_pos hz] at h
  cases q3 : fin xs with
  | none => rw [q3] at h; exact h.elim
  | some o =>
  rw [q3] at h
  simp only at h
  refine wpAny_comprehension_free (use := use) (g := ⟨tg, iter, ifs, 0⟩) hcl hs (closure_ok hfree) ok.kind (fun y hy e => by rw [ok.uniq y hy, e])
    (thn (hi.run pins s σ H (fun J H1 => ∃ G1, Tr O G H G1 H1 ∧ Hold (cnOf X) T O G1 σ H1 ρ1 ∧ IterOk (cnOf X) J G1 items) I ⟨O, G, ρ, hold, by rw [q1]; exact fun J G1 H1 t1 h1 i1 => ⟨G1, t1, h1, i1⟩⟩) fun xv s1 hx => thn hx fun itv s2 h2 => ?_)
  obtain ⟨it, fp, tn, J, H2, e2, I2, Tn, st2, f2, G1, tr1, hold1, io1⟩ := h2
  subst e2
  refine hnew pins s2 σ H2 _ _ I2 fun s3 hsz3 hk3 hg3 ho3 I3 => newEnv_comp ?_
  generalize hD : s2.heap.objs.size = D at I3 hsz3 ⊢
  have hDn : H2 D = none := I2.hok.fresh (Nat.le_of_eq hD)
  have sz : ∀ b ∈ fp, b < s2.heap.objs.size := fun b hb => by
    obtain ⟨o, e, _⟩ := Tn.obj _ _ st2 b hb
    exact Heap.lt_size e
  have f3 : ∀ b ∈ fp, FpOk X pins (upd H2 D o0) b ∧ b < s3.heap.objs.size := fun b hb => by
    have hlt := sz b hb
    refine ⟨⟨?_, (f2 b hb).2⟩, by rw [hsz3, ← hD]; exact Nat.lt_succ_of_lt hlt⟩
    rw [upd_ne (by rw [← hD]; exact Nat.ne_of_lt hlt)]
    exact (f2 b hb).1
  have st3 : tn 0 s3.heap := Tn.keep _ _ _ st2 fun b _ o e => hk3 b o e
  have I4 := block_start I3 ok hN f3
  generalize hfn : cellsFrom (s3.heap.objs.size + 1) scope.names (cloFrom X.env.cells scope.names []) = cl4 at I4 ⊢
  have okc := hok s3 (upd H2 D o0) s3.heap.objs.size cl4 fp
  have inc := hin s3 (upd H2 D o0) s3.heap.objs.size cl4 fp
  have emc := hem s3 (upd H2 D o0) s3.heap.objs.size cl4 fp D
  show codeAny _ _ (.compStart e 0 (.ref it) (.ref D) (compEnvC scope cl4 s3.heap.objs.size X.env)) (compPost (model X.prog X.w) X.A X.xe use Qf (.ref D) s3.heap.objs.size) { s3 with heap := pushCells (s3.heap.push { cls := .type "dict", data := .dict #[] }) scope.names }
  have nfp : ∀ b ∈ fp, (upd H2 D o0) b = none := fun b hb => (f3 b hb).1.1
  have cL : (compEnvC scope cl4 s3.heap.objs.size X.env).locals = s3.heap.objs.size := rfl
  generalize hH3 : upd H2 D o0 = H3 at I3 I4 okc inc emc nfp f3
  have P3 : (A D).P G1 H3 [] := by rw [← hH3]; exact h0 G1 H2 D
  have hold3 : Hold (cnOf X) T O G1 σ H3 ρ1 := by rw [← hH3]; exact hold1.trn (TrN.laid hold1.sub hold1.ntb hDn)
  have tr3 : Tr O G1 H2 G1 H3 := by rw [← hH3]; exact Tr.laid hDn
  have hOD : ¬ O D := fun z => hold1.oin D z hDn
  have hGD : G1 D = none := hold1.gnone hDn
  generalize hs4 : ({ s3 with heap := pushCells (s3.heap.push { cls := .type "dict", data := .dict #[] }) scope.names } : Shared) = s4 at I4 ⊢
  have st4 : tn 0 s4.heap := Tn.keep _ _ _ st3 fun b _ o e => by rw [← hs4]; exact pushCells_keeps _ _ _ _ (Heap.get?_push_of_some _ e)
  generalize hX' : X.blk s3 H3 scope (compEnvC scope cl4 s3.heap.objs.size X.env) fp = X' at I4 okc inc emc
  have stat : ∀ b ∈ fp, FpOk X' [] H3 b := fun b hb => by
    have I' := I4
    refine ⟨nfp b hb, (I'.ok.exf b (by rw [← hX']; exact hb)).1, I'.ok.exfs b (by rw [← hX']; exact hb), .inl (by rw [← hX']; exact hb), fun x c e => (I'.ok.exf b (by rw [← hX']; exact hb)).2 x c e, fun p hp => absurd (show p ∈ ([] : List (Addr × Obj)) ++ [] from by rw [← hX'] at hp; exact hp) (by simp)⟩
  have hXc : cnOf X' = cnOf X := by rw [← hX']
  have hpre : ∀ j, gens[0 + j]? = (⟨tg, iter, ifs, 0⟩ :: cls : List Comprehension)[j]? := fun j => by rw [hgens, Nat.zero_add]
  have hM : model X'.prog X'.w = model X.prog X.w := by rw [← hX']
  have hA : X'.A = X.A := by rw [← hX']
  have hEnv : X'.env = compEnvC scope cl4 s3.heap.objs.size X.env := by rw [← hX']
  have hold4 : Hold (cnOf X') T O G1 (wipe σ (own.map (·.2))) H3 (wipeE ρ1 (own.map (·.2))) := by rw [hXc]; exact hold3.wipeS _ hL
  have loop := loop_comp (X := X') (A := A D) (emit := emit) C (by rw [← hX']; exact hc) (by rw [← hX']; exact fun _ _ z => z) emc cls dcs ⟨tg, iter, ifs, 0⟩ dc 0 hpre okc inc nd [] s4 (wipe σ (own.map (·.2))) H3 O G1 (wipeE ρ1 (own.map (·.2))) [] xs ρ2 items it fp tn J
    I4 hold4 hOD hGD P3 (by rw [← hX']; exact Tn) st4 stat (by rw [hXc]; exact io1) (fun i hi v e => (wipe_some e).2 (hsub i hi)) q2 (by simpa using hz)
  have loop' : codeAny (model X.prog X.w) X.A (.compLoop e 0 (.ref it) (.ref D) (compEnvC scope cl4 s3.heap.objs.size X.env)) (compPost (model X.prog X.w) X.A X.xe use Qf (.ref D) s3.heap.objs.size) s4 := by
    rw [hM, hA, hEnv] at loop
    refine codeAny_mono loop fun r s6 hr => ?_
    cases r with
    | error _ => exact hr.elim
    | ok f =>
      obtain ⟨H5, G5, I6, hold5, tr5, g5, p5⟩ := hr
      have p5' : (A D).P G5 H5 xs := by simpa using p5
      have os6 : s6.os = s3.os := by have := I6.os; rw [← hX'] at this; exact this
      have base6 := I6.base
      have hok6 := I6.hok
      rw [← hX'] at base6 hok6
      have I7 : Inv X pins σ H5 s6 := I3.call' (ch := fp) os6 base6 hok6 I6.bare fun b hb => ⟨(f3 b hb).1.2.2.2.1, (f3 b hb).1.2.1, (f3 b hb).1.2.2.2.2.1, (f3 b hb).1.2.2.2.2.2⟩
      have nC : H5 s3.heap.objs.size = none := by
        have z : H5 X'.env.locals = none := I6.free
        rw [hEnv, cL] at z
        exact z
      obtain ⟨m, hn, _⟩ := I6.loc
      rw [hEnv, cL] at hn
      rw [hXc] at hold5
      have hq : Q (.ref D) H5 := by
        refine h (.ref D) G5 H5 ?_ (hold3.restore hold5 tr5.g) ⟨D, rfl, tr1.d D hDn, g5, hfin G5 H5 D xs o p5' q3⟩
        refine tr1.trans' ⟨tr5.g, fun a u ha hOa ht => ?_, fun a u ha => ?_, fun a ha => tr3.d a (tr5.d a ha), fun a ps ha => ?_⟩
        · have had : a ≠ D := fun z => by rw [z, hDn] at ha; cases ha
          exact tr5.k a u (by rw [← hH3, upd_ne had]; exact ha) (fun z => z.elim hOa had) ht
        · rcases tr5.n a u ha with z | z | z | z
          · exact .inl z
          · exact .inr (.inl (tr3.d a z))
          · exact .inr (.inr z)
          · subst z; exact .inr (.inl hDn)
        · have had : a ≠ D := fun z => by rw [z, hDn] at ha; cases ha
          exact tr5.t a ps (by rw [← hH3, upd_ne had]; exact ha)
      exact compPost_ok (hRR D s3.heap.objs.size s6 m H5 I7 hq hn (I3.fpOk (Nat.le_refl _) nC))
  exact compStart_of C (k := 0) (t := tg) (i := iter) (ifs := ifs) (by rw [hgens]; rfl) loop' (Tn.self X.A 0 _ _ _ st4 loop')

/-! ### lists -/
def accL (c : Cn) (Dd : Addr) : Acc Dd D where
  P := fun G H out => ∃ acc, H Dd = some (.lst acc) ∧ Reps c G acc out
  mono := fun s e ⟨acc, h, r⟩ => ⟨acc, e.trans h, r.mono s⟩
  there := fun ⟨acc, h, r⟩ => ⟨_, h, fun ps z => by cases z⟩
theorem emit_list {elt : Expr} {f : M Sl} {Dd : Addr} (hxe : ∀ u s, ¬ X.xe u s) (he : PE X elt (dT (cnOf X) T W0 f)) : EmitOk X T (accL (cnOf X) Dd) (fun acc env => do let _ ← call (.builtin "list.append") [acc, ← eval elt env]) (emit1 f) := by
  intro pins s σ H O G ρ out r ρ' I hold hO hg hp hce hz
  unfold emit1 at hce
  cases q1 : f ρ with
  | bad => rw [q1] at hce; cases hce
  | exc x ρx => rw [q1] at hce; cases hce
  | ok y ρ1 =>
    rw [q1] at hce
    simp only [Res.bind_ok] at hce
    cases hce
    refine wpAny_bind (thnX (he.run pins s σ H (fun v H1 => ∃ G1, Tr O G H G1 H1 ∧ Hold (cnOf X) T O G1 σ H1 ρ' ∧ RepR (cnOf X) H G1 H1 v y) I ⟨O, G, ρ, hold, by rw [q1]; exact fun v G1 H1 t1 h1 r1 => ⟨G1, t1, h1, r1⟩⟩) hxe fun u s1 ⟨v, H1, I1, rv, G1, tr1, hold1, r1⟩ => ?_)
    obtain ⟨G2, s2, tr2, hold2, r2⟩ := hold1.frzR hold.oin tr1 r1
    obtain ⟨⟨acc, hacc, racc⟩, hg2⟩ := Acc.step (A := accL (cnOf X) Dd) tr2 hO hg hp
    have hlen : acc.length < sizeLine := by
      rw [racc.length]
      simp only [List.length_append, List.length_singleton] at hz
      omega
    refine wpAny_bind (app_ok I1 hacc hlen rv fun s3 I3 => wpAny_pure ?_)
    refine ⟨_, G2, I3, ?_, (tr2.wider fun _ h => .inl h).trans' (Tr.write (.inr rfl) hacc (fun ps z => by cases z)), hg2, _, upd_same, racc.append (.cons r2 .nil)⟩
    -- the slots don't stand on Dd
    refine ⟨fun a o e => ?_, hold2.ntb, fun a ho e => ?_, fun p hp => ?_, hold2.lnt, hold2.len, fun i sl hi => ?_, hold2.apart⟩
    · rw [upd_ne (fun z => by rw [z, hg2] at e; cases e)]
      exact hold2.sub a o e
    · rw [upd_ne (fun z => hO (by rw [← z]; exact ho))] at e
      exact hold2.oin a ho e
    · obtain ⟨ps, e, q⟩ := hold2.tab p hp
      exact ⟨ps, by rw [upd_ne (fun z => by rw [z, hacc] at e; cases e)]; exact e, q⟩
    · obtain ⟨v', e, q⟩ := hold2.slot i sl hi
      refine ⟨v', e, ?_⟩
      cases sl with
      | val d => exact q
      | own o =>
        obtain ⟨a, rfl, ho, hg', q⟩ := q
        exact ⟨a, rfl, ho, hg', q.mono (fun _ _ h => h) (upd_ne fun z => hO (by rw [← z]; exact ho))⟩
def finL : List D → Option Ob := fun xs => some (.lst xs)
abbrev sListComp (vs : List Nat) (dc : DCl) (dcs : List DCl) (elt : M Sl) : M Sl := sComp finL vs dc dcs (emit1 elt)
/-- the facts of a comprehension's block -/
structure LcOk (X : Cx) (T : Fx) (W : WX) (elt tg iter : Expr) (ifs : List Expr) (cls : List Comprehension) (scope : Scope) (own : List (Str × Nat)) (dc : DCl) (dcs : List DCl) (f : M Sl) : Prop where
  hc : X.calm = true
  hN : X.N.Nodup
  hi : PI X tg iter (dI (cnOf X) T W dc.it)
  ok : BlkOk X.N X.env.scope scope own
  hok : ∀ (s : Shared) (H : Hp) (C : Addr) (cl : List (Str × Addr)) (fp : List Addr), ClOk (X.blk s H scope (compEnvC scope cl C X.env) fp) T W0 ⟨tg, iter, ifs, 0⟩ dc
  hin : ∀ (s : Shared) (H : Hp) (C : Addr) (cl : List (Str × Addr)) (fp : List Addr), ClIns (X.blk s H scope (compEnvC scope cl C X.env) fp) T W0 cls dcs
  he : ∀ (s : Shared) (H : Hp) (C : Addr) (cl : List (Str × Addr)) (fp : List Addr), PE (X.blk s H scope (compEnvC scope cl C X.env) fp) elt (dT (cnOf X) T W0 f)
  hs : ∀ x, foldedSetIterable iter X.env x = pure x
  nd : (dc.tg.slots ++ allSlots dcs).Nodup
  hsub : ∀ i ∈ dc.tg.slots ++ allSlots dcs, i ∈ own.map (·.2)
  hL : ∀ p ∈ T.L, p.1 ∉ own.map (·.2)
theorem firstAsync_0 {tg iter : Expr} {ifs : List Expr} {cls : List Comprehension} : firstAsync (⟨tg, iter, ifs, 0⟩ :: cls) = false := rfl
theorem pe_lcN {elt tg iter : Expr} {ifs : List Expr} {cls : List Comprehension} {scope : Scope} {own : List (Str × Nat)} {pos : Pos} {dc : DCl} {dcs : List DCl} {f : M Sl} (K : LcOk X T W elt tg iter ifs cls scope own dc dcs f) :
    PE X (.ListComp elt (⟨tg, iter, ifs, 0⟩ :: cls) scope pos) (dT (cnOf X) T W (sListComp (own.map (·.2)) dc dcs f)) := by
  refine ⟨fun pins s σ H Q I h => ?_⟩
  rw [eval_ListComp]
  refine comp_core (ce_list elt _ scope pos) rfl (accL (cnOf X)) new_list (fun G H Dd => ⟨[], upd_same, .nil⟩) (fun ps z => by cases z) (fun G H Dd out o p e => by cases e; exact p) K.hc K.hN I K.hi K.ok K.hok K.hin
    (fun s H C cl fp Dd => emit_list (fun _ _ z => z) (K.he s H C cl fp)) K.hs K.nd K.hsub K.hL h fun D C s' m H' I' q hn f => ⟨m, hn, fun h'' sb => ?_⟩
  obtain ⟨f0, f1, f2, f3, f4, f5⟩ := f
  exact ⟨.ref D, H', I'.turned (t' := s'.toks) (fun b o hb e => (sb.2 b hb).trans e) f0 f1 f3 f4 f5, rfl, q⟩
/-- name = [..] on one line -/
theorem ps_lcN {i : Nat} {y : Str} {py : Pos} {elt tg iter : Expr} {ifs : List Expr} {cls : List Comprehension} {scope : Scope} {own : List (Str × Nat)} {pos spos : Pos} {dc : DCl} {dcs : List DCl} {f : M Sl} (K : LcOk X T W elt tg iter ifs cls scope own dc dcs f)
    (hy : X.N[i]? = some y) (hyl : X.env.scope.names.lookup y = some .local) (hsw : swapsWith (.ListComp elt (⟨tg, iter, ifs, 0⟩ :: cls) scope pos) (some (.Name y py)) spos.line X.env = pure true) :
    PS X (.Assign [.Name y py] (.ListComp elt (⟨tg, iter, ifs, 0⟩ :: cls) scope pos) spos) (tAsg (dT (cnOf X) T W (sListComp (own.map (·.2)) dc dcs f)) (gName i)) := by
  refine ⟨fun pins s σ H D I h => ?_⟩
  rw [exec_Assign_Name_used _ _ _ _ hsw]
  refine wpAny_bind (wpAny_standAt (wpAny_bind ?_))
  show wpAny _ X.A (do let _ ← comprehension (.ListComp elt (⟨tg, iter, ifs, 0⟩ :: cls) scope pos) scope X.env (firstIterPos (⟨tg, iter, ifs, 0⟩ :: cls) pos) (newList []) false (eval iter X.env) (some (assign (.Name y py) X.env))) _ _ s
  have h : dT (cnOf X) T W (sListComp (own.map (·.2)) dc dcs f) σ H (fun x H1 => gName i x σ H1 D.nx) := h
  refine wpAny_bind (thn (comp_core (Qf := fun _ s' => SP X pins D .next s') (ce_list elt _ scope pos) rfl (accL (cnOf X)) new_list (fun G H Dd => ⟨[], upd_same, .nil⟩) (fun ps z => by cases z) (fun G H Dd out o p e => by cases e; exact p) K.hc K.hN I K.hi K.ok K.hok K.hin
    (fun s H C cl fp Dd => emit_list (fun _ _ z => z) (K.he s H C cl fp)) K.hs K.nd K.hsub K.hL h fun L C s' m H' I' q hn f => ?_) fun _ s' hq => wpAny_pure (wpAny_pure hq))
  show wpAny _ _ (assign (.Name y py) X.env (.ref L)) _ _ _
  refine wpAny_assign_Name (store_ok2 (v := V.ref L) I' K.hN hy (.inl hyl) rfl (fun s2 I2 ⟨a, sb, ha⟩ => ?_) (.inr hyl))
  obtain ⟨f0, f1, f2, f3, f4, f5⟩ := f
  have haC : C ≠ a := by
    rcases ha with z | z
    · rw [z]; exact f1
    · exact fun e => f4 y a z e.symm
  refine ⟨m, hn.sameBut sb haC, fun h3 sb3 => ?_⟩
  exact ⟨_, H', I2.turned (t' := s2.toks) (fun b o hb e => (sb3.2 b hb).trans e) f0 f1 f3 f4 f5, q⟩
end
end Sd
set_option Elab.async false
set_option linter.all false
set_option maxRecDepth 100000
set_option maxHeartbeats 4000000
set_option autoImplicit false
/-! Sd: generator expressions: the turns. -/
namespace Sd
open PySem PySem.Spec PyProof.Rows L2 GenW

theorem gen_tin (elt : Expr) (gens : List Comprehension) (scope : Scope) (pos : Pos) (k : Nat) (t i : Expr) (ifs : List Expr) (hk : gens[k]? = some ⟨t, i, ifs, 0⟩) (hk1 : gens[k + 1]? = none) (it acc : Value) (env : PySem.Env) :
    compTurn (.GeneratorExp elt gens scope pos) k it acc env = (do
      standAt i.pos
      match ← pyNext it with
      | none => pure (.done .next)
      | some v =>
        letOwnedTupleGo t it v
        assign t env v
        let mut ok := true
        for c in ifs do
          if ok then ok ← PySem.isTrue c env (eval c env)
        if ok then
          (do let v ← eval elt env; standAt elt.pos; let _ ← yieldOut env v)
        again (.compLoop (.GeneratorExp elt gens scope pos) k it acc env)) := by
  unfold compTurn
  simp only [hk, hk1]
  rfl
theorem gen_tout (elt : Expr) (gens : List Comprehension) (scope : Scope) (pos : Pos) (k : Nat) (t i t1 i1 : Expr) (ifs ifs1 : List Expr) (hk : gens[k]? = some ⟨t, i, ifs, 0⟩) (hk1 : gens[k + 1]? = some ⟨t1, i1, ifs1, 0⟩) (it acc : Value) (env : PySem.Env) :
    compTurn (.GeneratorExp elt gens scope pos) k it acc env = (do
      standAt i.pos
      match ← pyNext it with
      | none => pure (.done .next)
      | some v =>
        letOwnedTupleGo t it v
        assign t env v
        let mut ok := true
        for c in ifs do
          if ok then ok ← PySem.isTrue c env (eval c env)
        if ok then
          let x ← eval i1 env
          standAt i1.pos
          let x ← foldedSetIterable i1 env x
          let _ ← runOwn (.compStart (.GeneratorExp elt gens scope pos) (k + 1) (← holding [x] (pyIter x)) acc env) env
        again (.compLoop (.GeneratorExp elt gens scope pos) k it acc env)) := by
  unfold compTurn
  simp only [hk, hk1]
  rfl
def hOf (k : Nat) (env : PySem.Env) : Value → Sem Unit := if k = 0 then leaving env else fun x => do noteFrame x env; theTreesLotGoes x
def hOfS (k : Nat) (env : PySem.Env) : Value → Sem Unit := if k = 0 then leaving env else fun x => do noteFrame x env; standAt theWindowsPlace
theorem den_gen {P : Program} {w : World} {elt : Expr} {gens : List Comprehension} {scope : Scope} {pos : Pos} {k : Nat} {it acc : Value} {env : PySem.Env} :
    (model P w).den (.compLoop (.GeneratorExp elt gens scope pos) k it acc env) = (compTurn (.GeneratorExp elt gens scope pos) k it acc env).onRaise (hOf k env) := by
  cases k with
  | zero => rfl
  | succ k => rfl
theorem denS_gen {P : Program} {w : World} {elt : Expr} {gens : List Comprehension} {scope : Scope} {pos : Pos} {k : Nat} {it acc : Value} {env : PySem.Env} :
    (model P w).den (.compStart (.GeneratorExp elt gens scope pos) k it acc env) = (compStart (.GeneratorExp elt gens scope pos) k it acc env).onRaise (hOfS k env) := by
  cases k with
  | zero => rfl
  | succ k => rfl

section
variable {prog : Program} {w : World} {A : Around} {R : GenEnd} {Y : Protocol} {n : Nat} {s₀ s : Shared} {fs : List Frame} {elt : Expr} {gens : List Comprehension} {scope : Scope} {pos : Pos} {k : Nat} {t i t1 i1 : Expr} {ifs ifs1 : List Expr} {it acc : Value} {env : PySem.Env}
abbrev cG (elt : Expr) (gens : List Comprehension) (scope : Scope) (pos : Pos) (k : Nat) (it acc : Value) (env : PySem.Env) : Code := .compLoop (.GeneratorExp elt gens scope pos) k it acc env
theorem segG_in (hk : gens[k]? = some ⟨t, i, ifs, 0⟩) (hk1 : gens[k + 1]? = none) (hco : env.scope.isCoroutine = false) (hsp : splitAtGen fs = none) (hgd : fs.any Frame.guarded = false)
    (h : wpAny (model prog w) (A.over (cG elt gens scope pos k it acc env) fs) (pyNext it) (fun r s₁ => match r with
      | none => Seg (model prog w) A R Y n s₀ (cG elt gens scope pos k it acc env) (.pure (.done .next)) fs s₁
      | some v => wpAny (model prog w) (A.over (cG elt gens scope pos k it acc env) fs) (letOwnedTupleGo t it v) (fun _ s₁' => wpAny (model prog w) (A.over (cG elt gens scope pos k it acc env) fs) (assign t env v) (fun _ s₂ =>
          wpAny (model prog w) (A.over (cG elt gens scope pos k it acc env) fs) (forIn ifs true fun c r => if r = true then do let ok ← PySem.isTrue c env (eval c env); pure (ForInStep.yield ok) else pure (ForInStep.yield r)) (fun ok s₃ =>
            if ok = true then wpAny (model prog w) (A.over (cG elt gens scope pos k it acc env) fs) (eval elt env) (fun v s₄ => ∃ m, n = m + 1 ∧ ∀ kap : Resume → Shared → Prop,
                (∀ s'', Seg (model prog w) A R Y m s'' (cG elt gens scope pos k it acc env) (.pure (.again (cG elt gens scope pos k it acc env))) fs s'' → kap (.send .none) s'') → Y m s₀ v s₄ kap) (fun _ _ => False) s₃
            else Seg (model prog w) A R Y n s₀ (cG elt gens scope pos k it acc env) (.pure (.again (cG elt gens scope pos k it acc env))) fs s₃) (fun _ _ => False) s₂) (fun _ _ => False) s₁') (fun _ _ => False) s₁) (fun _ _ => False) s) :
    Seg (model prog w) A R Y n s₀ (cG elt gens scope pos k it acc env) ((model prog w).den (cG elt gens scope pos k it acc env)) fs s := by
  rw [den_gen, Sem.onRaise_eq_wrap, gen_tin elt gens scope pos k t i ifs hk hk1]
  refine seg_bind_wrap (wpAny_standAt ?_)
  refine seg_bind_wrap (wpAny_mono h (fun r s₁ h₁ => ?_) fun _ _ z => z.elim)
  cases r with
  | none => exact h₁
  | some v =>
    refine seg_bind_wrap (wpAny_mono h₁ (fun _ s₁' h₁' => ?_) fun _ _ z => z.elim)
    refine seg_bind_wrap (wpAny_mono h₁' (fun _ s₂ h₂ => ?_) fun _ _ z => z.elim)
    refine seg_bind_wrap (wpAny_mono h₂ (fun ok s₃ h₃ => ?_) fun _ _ z => z.elim)
    cases ok with
    | false =>
      simp only [Bool.false_eq_true, if_false] at h₃ ⊢
      exact h₃
    | true =>
      simp only [if_true] at h₃ ⊢
      have hy : ∀ v, yieldOut env v = yieldValue v := fun v => by simp only [yieldOut, hco, Bool.false_eq_true, if_false]
      simp only [hy]
      rw [Sem.bind_eq_wrap', Sem.bind_eq_wrap', Sem.wrap_wrap, Sem.wrap_wrap]
      refine seg_wrap (wpAny_mono h₃ (fun v s₄ h₄ => ?_) fun _ _ z => z.elim)
      obtain ⟨m, rfl, h₄⟩ := h₄
      refine seg_at (seg_yield hsp rfl hgd ?_)
      exact h₄ _ fun s'' hs => hs
theorem segG_out (hk : gens[k]? = some ⟨t, i, ifs, 0⟩) (hk1 : gens[k + 1]? = some ⟨t1, i1, ifs1, 0⟩) (hs : ∀ x, foldedSetIterable i1 env x = pure x)
    (h : wpAny (model prog w) (A.over (cG elt gens scope pos k it acc env) fs) (pyNext it) (fun r s₁ => match r with
      | none => Seg (model prog w) A R Y n s₀ (cG elt gens scope pos k it acc env) (.pure (.done .next)) fs s₁
      | some v => wpAny (model prog w) (A.over (cG elt gens scope pos k it acc env) fs) (letOwnedTupleGo t it v) (fun _ s₁' => wpAny (model prog w) (A.over (cG elt gens scope pos k it acc env) fs) (assign t env v) (fun _ s₂ =>
          wpAny (model prog w) (A.over (cG elt gens scope pos k it acc env) fs) (forIn ifs true fun c r => if r = true then do let ok ← PySem.isTrue c env (eval c env); pure (ForInStep.yield ok) else pure (ForInStep.yield r)) (fun ok s₃ =>
            if ok = true then wpAny (model prog w) (A.over (cG elt gens scope pos k it acc env) fs) (eval i1 env) (fun x s₄ => wpAny (model prog w) (A.over (cG elt gens scope pos k it acc env) fs) (pyIter x) (fun it1 s₅ =>
              ∀ (KK : Result → Sem PySem.Fin) (lvl : List Value) (p : Pos), (∀ n' s₀' f s'', Seg (model prog w) A R Y n' s₀' (cG elt gens scope pos k it acc env) (.pure (.again (cG elt gens scope pos k it acc env))) fs s'' → Seg (model prog w) A R Y n' s₀' (cG elt gens scope pos k it acc env) (KK (.ok f)) fs s'') →
                Seg (model prog w) A R Y n s₀ (.compStart (.GeneratorExp elt gens scope pos) (k + 1) it1 acc env) ((model prog w).den (.compStart (.GeneratorExp elt gens scope pos) (k + 1) it1 acc env)) (.ret KK none false lvl (cG elt gens scope pos k it acc env) p [] :: fs) s₅) (fun _ _ => False) s₄) (fun _ _ => False) s₃
            else Seg (model prog w) A R Y n s₀ (cG elt gens scope pos k it acc env) (.pure (.again (cG elt gens scope pos k it acc env))) fs s₃) (fun _ _ => False) s₂) (fun _ _ => False) s₁') (fun _ _ => False) s₁) (fun _ _ => False) s) :
    Seg (model prog w) A R Y n s₀ (cG elt gens scope pos k it acc env) ((model prog w).den (cG elt gens scope pos k it acc env)) fs s := by
  rw [den_gen, Sem.onRaise_eq_wrap, gen_tout elt gens scope pos k t i t1 i1 ifs ifs1 hk hk1]
  refine seg_bind_wrap (wpAny_standAt ?_)
  refine seg_bind_wrap (wpAny_mono h (fun r s₁ h₁ => ?_) fun _ _ z => z.elim)
  cases r with
  | none => exact h₁
  | some v =>
    refine seg_bind_wrap (wpAny_mono h₁ (fun _ s₁' h₁' => ?_) fun _ _ z => z.elim)
    refine seg_bind_wrap (wpAny_mono h₁' (fun _ s₂ h₂ => ?_) fun _ _ z => z.elim)
    refine seg_bind_wrap (wpAny_mono h₂ (fun ok s₃ h₃ => ?_) fun _ _ z => z.elim)
    cases ok with
    | false =>
      simp only [Bool.false_eq_true, if_false] at h₃ ⊢
      exact h₃
    | true =>
      simp only [if_true] at h₃ ⊢
      refine seg_bind_wrap (wpAny_mono h₃ (fun x s₄ h₄ => ?_) fun _ _ z => z.elim)
      refine seg_bind_wrap (wpAny_standAt ?_)
      refine seg_bind_wrap (wpAny_of_eq (hs x) ?_)
      refine seg_bind_wrap (wpAny_holding (wpAny_mono h₄ (fun it1 s₅ h₅ => ?_) fun _ _ z => z.elim))
      show Seg _ A R Y n s₀ _ (.call (.compStart (.GeneratorExp elt gens scope pos) (k + 1) it1 acc env) none _ _ _) fs s₅
      refine seg_call fun p => ?_
      refine h₅ _ _ p fun n' s₀' f s'' hq => ?_
      exact hq
theorem segG_start (hk : gens[k]? = some ⟨t, i, ifs, 0⟩) (h0 : Seg (model prog w) A R Y n s₀ (cG elt gens scope pos k it acc env) ((model prog w).den (cG elt gens scope pos k it acc env)) fs s)
    (h : wpAny (model prog w) (A.over (.compStart (.GeneratorExp elt gens scope pos) k it acc env) fs) (pyIter it) (fun it' s' => Seg (model prog w) A R Y n s₀ (cG elt gens scope pos k it' acc env) ((model prog w).den (cG elt gens scope pos k it' acc env)) fs s') (fun _ _ => False) s) :
    Seg (model prog w) A R Y n s₀ (.compStart (.GeneratorExp elt gens scope pos) k it acc env) ((model prog w).den (.compStart (.GeneratorExp elt gens scope pos) k it acc env)) fs s := by
  rw [denS_gen, Sem.onRaise_eq_wrap]
  unfold compStart
  simp only [show clausesOf (.GeneratorExp elt gens scope pos) = gens from rfl, hk]
  show Seg _ A _ _ n s₀ _ ((ask >>= _).wrap _ _ _ _) fs s
  refine seg_bind_wrap (wpAny_askSetting ?_)
  split
  · exact seg_again rfl h0
  · first
      | exact seg_bind_wrap (wpAny_rule (seg_bind_wrap (wpAny_standAt (seg_bind_wrap (wpAny_mono h (fun it' s' h' => seg_again rfl h') fun _ _ z => z.elim)))))
      | (refine seg_bind_wrap (wpAny_rule ?_); show Seg _ A _ _ n s₀ _ ((standAt i.pos >>= _).wrap _ _ _ _) fs s; exact seg_bind_wrap (wpAny_standAt (seg_bind_wrap (wpAny_mono h (fun it' s' h' => seg_again rfl h') fun _ _ z => z.elim))))
end
end Sd
set_option Elab.async false
set_option linter.all false
set_option maxRecDepth 100000
set_option maxHeartbeats 4000000
set_option autoImplicit false
/-! Sd: any, all of generator expressions: the data level, the turns. -/
namespace Sd
open PySem PySem.Spec PyProof.Rows L2 GenW

def anyItems (tg : Tgt) (cond : M Bool) (body : M Bool) : List D → M Bool
  | [] => fun ρ => .ok false ρ
  | d :: ds => fun ρ => match assignT tg d ρ with
    | none => .bad
    | some ρ1 => (cond ρ1).bind fun b ρ2 => if b = true then (body ρ2).bind fun st ρ3 => if st = true then .ok true ρ3 else anyItems tg cond body ds (wipeE ρ3 tg.slots)
      else anyItems tg cond body ds (wipeE ρ2 tg.slots)
def eltB (stop : Bool) (elt : M Sl) : M Bool := fun ρ => (elt ρ).bind fun r ρ' => match r with
  | .val (.bool b) => .ok (b == stop) ρ'
  | _ => .bad
def anyGo (stop : Bool) (elt : M Sl) : List DCl → M Bool
  | [] => eltB stop elt
  | cl :: cls => fun ρ => (cl.it ρ).bind fun items ρ1 => anyItems cl.tg cl.cond (anyGo stop elt cls) items ρ1

/-- the consumer has let the generator sleep -/
structure Woke (s s' : Shared) : Prop where
  heap : s'.heap = s.heap
  os : s'.os = s.os
  bare : AllBare s'.gens
theorem Inv.woke {X : Cx} {pins : List (Addr × Obj)} {σ : St} {H : Hp} {s s' : Shared} (I : Inv X pins σ H s) (z : Woke s s') : Inv X pins σ H s' :=
  I.call' (ch := []) z.os (by rw [z.heap]; exact Un.refl) (by rw [z.heap]; exact I.hok) z.bare (fun b hb => absurd hb (by simp))
def GAt (X : Cx) (T : Fx) (pins : List (Addr × Obj)) (O : Addr → Prop) (G0 H0 : Hp) (σ : St) (ρ : Ev) (s : Shared) : Prop :=
  ∃ H G, Inv X pins σ H s ∧ Hold (cnOf X) T O G σ H ρ ∧ Tr O G0 H0 G H
/-- the protocol lets the generator go on behind what does not stop -/
def YGo (X : Cx) (stop : Bool) (Y : Protocol) : Prop := ∀ (m : Nat) (s₀ s : Shared) (kap : Resume → Shared → Prop) (pins : List (Addr × Obj)) (σ : St) (H : Hp) (b : Bool), Inv X pins σ H s → (b == stop) = false → (∀ s'', Woke s s'' → kap (.send .none) s'') → Y m s₀ (.bool b) s kap

section
variable {X : Cx} {T : Fx} {stop : Bool} {elt : Expr} {eltF : M Sl} {gens : List Comprehension} {scope : Scope} {pos : Pos}
theorem segG_items (hc : X.calm = true) (hxe : ∀ u s, ¬ X.xe u s) (hco : X.env.scope.isCoroutine = false) (he : PE X elt (dT (cnOf X) T W0 eltF)) :
    ∀ (cls : List Comprehension) (dcs : List DCl) (cl : Comprehension) (dc : DCl) (k : Nat), (∀ j, gens[k + j]? = (cl :: cls)[j]?) → ClOk X T W0 cl dc → ClIns X T W0 cls dcs → (dc.tg.slots ++ allSlots dcs).Nodup →
    ∀ (mm : Nat) (L : List D) (i : Nat) (ρ : Ev) (b : Bool) (ρ' : Ev), L.length - i = mm → i ≤ L.length → anyItems dc.tg dc.cond (anyGo stop eltF dcs) (L.drop i) ρ = .ok b ρ' →
    ∃ N : Nat, ∀ (Nr n : Nat) (s₀ : Shared) (fs : List Frame) (A : Around) (R : GenEnd) (Y : Protocol) (pins : List (Addr × Obj)) (s : Shared) (σ : St) (H : Hp) (O : Addr → Prop) (G : Hp) (it : Addr) (fp : List Addr) (tn : Nat → Heap → Prop) (J : It),
      N + Nr ≤ n → A.over (cG elt gens scope pos k (.ref it) .none X.env) fs = X.A → splitAtGen fs = none → fs.any Frame.guarded = false → Inv X pins σ H s → Hold (cnOf X) T O G σ H ρ →
      Turn X.prog X.w X.K cl.target J fp it tn → tn i s.heap → (∀ b ∈ fp, FpOk X pins H b) → IterOk (cnOf X) J G L → (∀ j ∈ dc.tg.slots ++ allSlots dcs, ∀ v, σ[j]? ≠ some (some v)) → YGo X stop Y →
      (b = false → ∀ n' s₀' s', Nr ≤ n' → GAt X T pins O G H σ ρ' s' → Seg (model X.prog X.w) A R Y n' s₀' (cG elt gens scope pos k (.ref it) .none X.env) (.pure (.done .next)) fs s') →
      (b = true → ∀ m s₀' s4 kap pins'' σ'' H'' G'' bb, (bb == stop) = true → Inv X pins'' σ'' H'' s4 → Hold (cnOf X) T O G'' σ'' H'' ρ' → Tr O G H G'' H'' → (∀ j, j ∉ dc.tg.slots ++ allSlots dcs → σ''[j]? = σ[j]?) → σ''.length = σ.length → Y m s₀' (.bool bb) s4 kap) →
      Seg (model X.prog X.w) A R Y n s₀ (cG elt gens scope pos k (.ref it) .none X.env) ((model X.prog X.w).den (cG elt gens scope pos k (.ref it) .none X.env)) fs s := by
  intro cls
  induction cls with
  | nil =>
    intro dcs cl dc k hk ok hin nd mm
    cases hin
    obtain ⟨t, i0, ifs, as⟩ := cl
    obtain ⟨has, pg, pt⟩ := ok
    cases has
    have hk0 : gens[k]? = some ⟨t, i0, ifs, 0⟩ := by have := hk 0; simpa using this
    have hk1 : gens[k + 1]? = none := by have := hk 1; simpa using this
    induction mm with
    | zero =>
      intro L i ρ b ρ' hm hi hce
      have hi' : i = L.length := by omega
      subst hi'
      rw [List.drop_length] at hce
      simp only [anyItems] at hce
      cases hce
      refine ⟨0, fun Nr n s₀ fs A R Y pins s σ H O G it fp tn J hn hA hsp hgd I hold Tn st hf io hσ hY hend hstp => ?_⟩
      refine segG_in hk0 hk1 hco hsp hgd ?_
      rw [hA]
      refine thnX (Tn.done X rfl rfl rfl hc _ pins s σ H (fun _ _ => False) I hf st (io.stop G H _ (fun _ _ h => h) hold.sub (Nat.le_refl _))) (fun _ _ z => z) fun r s1 ⟨hr, I1⟩ => ?_
      subst hr
      exact hend rfl n s₀ s1 (by omega) ⟨H, G, I1, hold, .refl⟩
    | succ mm ih =>
      intro L i ρ b ρ' hm hi hce
      have hlt : i < L.length := by omega
      have hd : L.drop i = L[i] :: L.drop (i + 1) := List.drop_eq_getElem_cons hlt
      rw [hd] at hce
      simp only [anyItems] at hce
      cases q1 : assignT dc.tg L[i] ρ with
      | none => rw [q1] at hce; cases hce
      | some ρ1 =>
      rw [q1] at hce
      simp only at hce
      cases q2 : dc.cond ρ1 with
      | bad => rw [q2] at hce; cases hce
      | exc x ρx => rw [q2] at hce; cases hce
      | ok bc ρ2 =>
      rw [q2] at hce
      simp only [Res.bind_ok] at hce
      -- the number of items that come, chosen by the data
      have main : ∀ (N : Nat) (Nr n : Nat) (s₀ : Shared) (fs : List Frame) (A : Around) (R : GenEnd) (Y : Protocol) (pins : List (Addr × Obj)) (s : Shared) (σ : St) (H : Hp) (O : Addr → Prop) (G : Hp) (it : Addr) (fp : List Addr) (tn : Nat → Heap → Prop) (J : It),
          A.over (cG elt gens scope pos k (.ref it) .none X.env) fs = X.A → splitAtGen fs = none → fs.any Frame.guarded = false → Inv X pins σ H s → Hold (cnOf X) T O G σ H ρ →
          Turn X.prog X.w X.K t J fp it tn → tn i s.heap → (∀ b ∈ fp, FpOk X pins H b) → IterOk (cnOf X) J G L → (∀ j ∈ dc.tg.slots ++ allSlots [], ∀ v, σ[j]? ≠ some (some v)) →
          (∀ s4 σ3 H4 G4 pins4, (∀ j, j ∉ dc.tg.slots → σ3[j]? = σ[j]?) → σ3.length = σ.length → Inv X pins4 σ3 H4 s4 → Hold (cnOf X) T O G4 σ3 H4 ρ2 → Tr O G H G4 H4 → Same G G4 →
            -- back to the start of a turn
            (∀ s5 H5 G5 ρ5, Inv X pins4 σ3 H5 s5 → Hold (cnOf X) T O G5 σ3 H5 ρ5 → Tr O G4 H4 G5 H5 → Inv X pins σ H5 s5 ∧ Hold (cnOf X) T O G5 σ H5 (wipeE ρ5 dc.tg.slots) ∧ tn (i + 1) s5.heap ∧ ∀ b ∈ fp, FpOk X pins H5 b) →
            if bc = true then wpAny (model X.prog X.w) X.A (eval elt X.env) (fun v s₄ => ∃ m, n = m + 1 ∧ ∀ kap : Resume → Shared → Prop,
                (∀ s'', Seg (model X.prog X.w) A R Y m s'' (cG elt gens scope pos k (.ref it) .none X.env) (.pure (.again (cG elt gens scope pos k (.ref it) .none X.env))) fs s'' → kap (.send .none) s'') → Y m s₀ v s₄ kap) (fun _ _ => False) s4
            else Seg (model X.prog X.w) A R Y n s₀ (cG elt gens scope pos k (.ref it) .none X.env) (.pure (.again (cG elt gens scope pos k (.ref it) .none X.env))) fs s4) →
          Seg (model X.prog X.w) A R Y n s₀ (cG elt gens scope pos k (.ref it) .none X.env) ((model X.prog X.w).den (cG elt gens scope pos k (.ref it) .none X.env)) fs s := by
        intro N Nr n s₀ fs A R Y pins s σ H O G it fp tn J hA hsp hgd I hold Tn st hf io hσ hnext
        have fpok : ∀ H', (∀ b ∈ fp, H' b = none) → ∀ b ∈ fp, FpOk X pins H' b := fun H' hn b hb => ⟨hn b hb, (hf b hb).2⟩
        refine segG_in hk0 hk1 hco hsp hgd ?_
        rw [hA]
        refine thnX (Tn.item X rfl rfl rfl hc i pins s σ H (fun _ _ => False) I hf st (io.go G H i (fun _ _ h => h) hold.sub hlt)) (fun _ _ z => z) fun r s1 ⟨u, hr, h1⟩ => ?_
        subst hr
        refine thnX h1 (fun _ _ z => z) fun _ s2 ⟨x, H2, I2, r2, y2, st2, fn2⟩ => ?_
        obtain ⟨d, G2, hid, tn2, rep2⟩ := io.yld G H i x H2 (fun _ _ h => h) hold.sub hold.ntb hlt y2
        have hdd : d = L[i] := by rw [List.getElem?_eq_getElem hlt] at hid; exact (Option.some.inj hid).symm
        subst hdd
        have hold2 := hold.trn tn2
        have I2' := I2.pinned (fpok H2 fn2) (Tn.obj _ _ st2)
        refine thnX (pg.run _ s2 σ H2 x u (fun σ3 H3 => H3 = H2 ∧ (∀ j, j ∉ dc.tg.slots → σ3[j]? = σ[j]?) ∧ σ3.length = σ.length ∧ Hold (cnOf X) T O G2 σ3 H2 ρ1) I2' r2 ⟨O, G2, ρ, L[i], hold2, rep2, ρ1, q1, fun σ3 h1 h2 h3 => ⟨rfl, h1, h2, h3⟩⟩) hxe fun _ s3 ⟨σ3, H3, I3, e3, hs3, hl3, hold3⟩ => ?_
        subst e3
        refine thnX (pt.run _ s3 σ3 H3 (fun b' H4 => b' = bc ∧ ∃ G4, Tr O G2 H3 G4 H4 ∧ Hold (cnOf X) T O G4 σ3 H4 ρ2) I3 ⟨O, G2, ρ1, hold3, by rw [q2]; exact fun G4 H4 t4 h4 => ⟨rfl, G4, t4, h4⟩⟩) hxe fun b' s4 ⟨H4, I4, e4, G4, tr4, hold4⟩ => ?_
        subst e4
        refine hnext s4 σ3 H4 G4 _ hs3 hl3 I4 hold4 (Tr.trans' tn2.tr tr4) (Same.trans tn2.g tr4.g) fun s5 H5 G5 ρ5 I5 hold5 tr5 => ?_
        have pin' : ∀ b ∈ fp, ∀ o, s2.heap.get? b = some o → s5.heap.get? b = some o ∧ H5 b = none := fun b hb o eo =>
          let z := I5.pin (b, o) (List.mem_append_right _ (List.mem_append_right _ (mem_pinsAt hb eo)))
          ⟨z.1, z.2.1⟩
        refine ⟨I5.unpinned.weak hl3.symm (fun j v ej => ?_), hold5.wiped hl3.symm hold.lnt hs3, Tn.keep _ _ _ st2 fun b hb o eo => (pin' b hb o eo).1, fpok H5 fun b hb => ?_⟩
        · rw [hs3 j (fun hj => hσ j (List.mem_append_left _ hj) v ej)]
          exact ej
        · obtain ⟨o, eo, _⟩ := Tn.obj _ _ st2 b hb
          exact (pin' b hb o eo).2
      cases bc with
      | false =>
        simp only [Bool.false_eq_true, if_false] at hce main
        obtain ⟨N, hN⟩ := ih L (i + 1) _ b ρ' (by omega) (by omega) hce
        refine ⟨N, fun Nr n s₀ fs A R Y pins s σ H O G it fp tn J hn hA hsp hgd I hold Tn st hf io hσ hY hend hstp => ?_⟩
        refine main 0 0 n s₀ fs A R Y pins s σ H O G it fp tn J hA hsp hgd I hold Tn st hf io hσ fun s4 σ3 H4 G4 pins4 hs3 hl3 I4 hold4 tr4 sg4 back => ?_
        obtain ⟨I5, hold5, st5, hf5⟩ := back s4 H4 G4 ρ2 I4 hold4 .refl
        refine seg_again rfl (hN Nr n s₀ fs A R Y pins s4 σ H4 O G4 it fp tn J hn hA hsp hgd I5 hold5 Tn st5 hf5 (io.mono sg4) hσ hY (fun e n' s₀' s' hn' ⟨H6, G6, I6, hold6, tr6⟩ => hend e n' s₀' s' hn' ⟨H6, G6, I6, hold6, tr4.trans' tr6⟩)
          fun e m s₀' s6 kap pins6 σ6 H6 G6 bb hbb I6 hold6 tr6 h1 h2 => hstp e m s₀' s6 kap pins6 σ6 H6 G6 bb hbb I6 hold6 (tr4.trans' tr6) h1 h2)
      | true =>
        simp only [if_true, anyGo, eltB] at hce main
        cases q3 : eltF ρ2 with
        | bad => rw [q3] at hce; cases hce
        | exc x ρx => rw [q3] at hce; cases hce
        | ok r ρ3 =>
        rw [q3] at hce
        simp only [Res.bind_ok] at hce
        cases r with
        | own o => cases hce
        | val d =>
        cases d with
        | bool be =>
          simp only [Res.bind_ok] at hce
          by_cases hst : (be == stop) = true
          · rw [if_pos hst] at hce
            cases hce
            refine ⟨1, fun Nr n s₀ fs A R Y pins s σ H O G it fp tn J hn hA hsp hgd I hold Tn st hf io hσ hY hend hstp => ?_⟩
            refine main 0 0 n s₀ fs A R Y pins s σ H O G it fp tn J hA hsp hgd I hold Tn st hf io hσ fun s4 σ3 H4 G4 pins4 hs3 hl3 I4 hold4 tr4 sg4 back => ?_
            refine thnX (he.run pins4 s4 σ3 H4 (fun v H5 => v = .bl be ∧ ∃ G5, Tr O G4 H4 G5 H5 ∧ Hold (cnOf X) T O G5 σ3 H5 ρ') I4 ⟨O, G4, ρ2, hold4, by rw [q3]; exact fun v G5 H5 t5 h5 r5 => ⟨by cases (show Rep (cnOf X) G5 v (.bool be) from r5); rfl, G5, t5, h5⟩⟩) hxe fun v s5 ⟨v5, H5, I5, rv, ev, G5, tr5, hold5⟩ => ?_
            subst ev
            cases (show v = Value.bool be from rv)
            obtain ⟨m, rfl⟩ : ∃ m, n = m + 1 := ⟨n - 1, by omega⟩
            refine ⟨m, rfl, fun kap hkap => ?_⟩
            refine hstp rfl m s₀ s5 kap pins4 σ3 H5 G5 be hst I5 hold5 (tr4.trans' tr5) (fun j hj => hs3 j fun z => hj (List.mem_append_left _ z)) hl3
          · rw [if_neg hst] at hce
            obtain ⟨N, hN⟩ := ih L (i + 1) _ b ρ' (by omega) (by omega) hce
            refine ⟨N + 1, fun Nr n s₀ fs A R Y pins s σ H O G it fp tn J hn hA hsp hgd I hold Tn st hf io hσ hY hend hstp => ?_⟩
            refine main 0 0 n s₀ fs A R Y pins s σ H O G it fp tn J hA hsp hgd I hold Tn st hf io hσ fun s4 σ3 H4 G4 pins4 hs3 hl3 I4 hold4 tr4 sg4 back => ?_
            refine thnX (he.run pins4 s4 σ3 H4 (fun v H5 => v = .bl be ∧ ∃ G5, Tr O G4 H4 G5 H5 ∧ Hold (cnOf X) T O G5 σ3 H5 ρ3) I4 ⟨O, G4, ρ2, hold4, by rw [q3]; exact fun v G5 H5 t5 h5 r5 => ⟨by cases (show Rep (cnOf X) G5 v (.bool be) from r5); rfl, G5, t5, h5⟩⟩) hxe fun v s5 ⟨v5, H5, I5, rv, ev, G5, tr5, hold5⟩ => ?_
            subst ev
            cases (show v = Value.bool be from rv)
            obtain ⟨m, rfl⟩ : ∃ m, n = m + 1 := ⟨n - 1, by omega⟩
            refine ⟨m, rfl, fun kap hkap => ?_⟩
            refine hY m s₀ s5 kap pins4 σ3 H5 be I5 (by simpa using hst) fun s'' wk => hkap s'' ?_
            have I6 := Inv.woke I5 wk
            obtain ⟨I7, hold7, st7, hf7⟩ := back s'' H5 G5 ρ3 I6 hold5 tr5
            refine seg_again rfl (hN Nr m s'' fs A R Y pins s'' σ H5 O G5 it fp tn J (by omega) hA hsp hgd I7 hold7 Tn st7 hf7 (io.mono (sg4.trans tr5.g)) hσ hY
              (fun e n' s₀' s' hn' ⟨H8, G8, I8, hold8, tr8⟩ => hend e n' s₀' s' hn' ⟨H8, G8, I8, hold8, (tr4.trans' tr5).trans' tr8⟩)
              fun e m' s₀' s8 kap pins8 σ8 H8 G8 bb hbb I8 hold8 tr8 h1 h2 => hstp e m' s₀' s8 kap pins8 σ8 H8 G8 bb hbb I8 hold8 ((tr4.trans' tr5).trans' tr8) h1 h2)
        | _ => cases hce
  | cons cl1 cls ihc =>
    intro dcs cl dc k hk ok hin nd mm
    cases hin with
    | cons hin1 hins =>
    rename_i dc1 dcs1
    obtain ⟨t, i0, ifs, as⟩ := cl
    obtain ⟨has, pg, pt⟩ := ok
    cases has
    obtain ⟨t1, i1, ifs1, as1⟩ := cl1
    obtain ⟨ok1, pi1, fd1⟩ := id hin1
    have has1 : as1 = 0 := ok1.as
    subst has1
    have hk0 : gens[k]? = some ⟨t, i0, ifs, 0⟩ := by have := hk 0; simpa using this
    have hk1 : gens[k + 1]? = some ⟨t1, i1, ifs1, 0⟩ := by have := hk 1; simpa using this
    have nd2 : (dc1.tg.slots ++ allSlots dcs1).Nodup := (List.nodup_append.mp nd).2.1
    induction mm with
    | zero =>
      intro L i ρ b ρ' hm hi hce
      have hi' : i = L.length := by omega
      subst hi'
      rw [List.drop_length] at hce
      simp only [anyItems] at hce
      cases hce
      refine ⟨0, fun Nr n s₀ fs A R Y pins s σ H O G it fp tn J hn hA hsp hgd I hold Tn st hf io hσ hY hend hstp => ?_⟩
      refine segG_out hk0 hk1 fd1 ?_
      rw [hA]
      refine thnX (Tn.done X rfl rfl rfl hc _ pins s σ H (fun _ _ => False) I hf st (io.stop G H _ (fun _ _ h => h) hold.sub (Nat.le_refl _))) (fun _ _ z => z) fun r s1 ⟨hr, I1⟩ => ?_
      subst hr
      exact hend rfl n s₀ s1 (by omega) ⟨H, G, I1, hold, .refl⟩
    | succ mm ih =>
      intro L i ρ b ρ' hm hi hce
      have hlt : i < L.length := by omega
      have hd : L.drop i = L[i] :: L.drop (i + 1) := List.drop_eq_getElem_cons hlt
      rw [hd] at hce
      simp only [anyItems] at hce
      cases q1 : assignT dc.tg L[i] ρ with
      | none => rw [q1] at hce; cases hce
      | some ρ1 =>
      rw [q1] at hce
      simp only at hce
      cases q2 : dc.cond ρ1 with
      | bad => rw [q2] at hce; cases hce
      | exc x ρx => rw [q2] at hce; cases hce
      | ok bc ρ2 =>
      rw [q2] at hce
      simp only [Res.bind_ok] at hce
      have main : ∀ (N : Nat) (Nr n : Nat) (s₀ : Shared) (fs : List Frame) (A : Around) (R : GenEnd) (Y : Protocol) (pins : List (Addr × Obj)) (s : Shared) (σ : St) (H : Hp) (O : Addr → Prop) (G : Hp) (it : Addr) (fp : List Addr) (tn : Nat → Heap → Prop) (J : It),
          A.over (cG elt gens scope pos k (.ref it) .none X.env) fs = X.A → splitAtGen fs = none → fs.any Frame.guarded = false → Inv X pins σ H s → Hold (cnOf X) T O G σ H ρ →
          Turn X.prog X.w X.K t J fp it tn → tn i s.heap → (∀ b ∈ fp, FpOk X pins H b) → IterOk (cnOf X) J G L → (∀ j ∈ dc.tg.slots ++ allSlots (dc1 :: dcs1), ∀ v, σ[j]? ≠ some (some v)) →
          (∀ s4 σ3 H4 G4 pins4, (∀ j, j ∉ dc.tg.slots → σ3[j]? = σ[j]?) → σ3.length = σ.length → Inv X pins4 σ3 H4 s4 → Hold (cnOf X) T O G4 σ3 H4 ρ2 → Tr O G H G4 H4 → Same G G4 →
            (∀ s5 H5 G5 ρ5, Inv X pins4 σ3 H5 s5 → Hold (cnOf X) T O G5 σ3 H5 ρ5 → Tr O G4 H4 G5 H5 → Inv X pins σ H5 s5 ∧ Hold (cnOf X) T O G5 σ H5 (wipeE ρ5 dc.tg.slots) ∧ tn (i + 1) s5.heap ∧ ∀ b ∈ fp, FpOk X pins H5 b) →
            if bc = true then wpAny (model X.prog X.w) X.A (eval i1 X.env) (fun x s₄ => wpAny (model X.prog X.w) X.A (pyIter x) (fun it1 s₅ =>
              ∀ (KK : Result → Sem PySem.Fin) (lvl : List Value) (p : Pos), (∀ n' s₀' f s'', Seg (model X.prog X.w) A R Y n' s₀' (cG elt gens scope pos k (.ref it) .none X.env) (.pure (.again (cG elt gens scope pos k (.ref it) .none X.env))) fs s'' → Seg (model X.prog X.w) A R Y n' s₀' (cG elt gens scope pos k (.ref it) .none X.env) (KK (.ok f)) fs s'') →
                Seg (model X.prog X.w) A R Y n s₀ (.compStart (.GeneratorExp elt gens scope pos) (k + 1) it1 .none X.env) ((model X.prog X.w).den (.compStart (.GeneratorExp elt gens scope pos) (k + 1) it1 .none X.env)) (.ret KK none false lvl (cG elt gens scope pos k (.ref it) .none X.env) p [] :: fs) s₅) (fun _ _ => False) s₄) (fun _ _ => False) s4
            else Seg (model X.prog X.w) A R Y n s₀ (cG elt gens scope pos k (.ref it) .none X.env) (.pure (.again (cG elt gens scope pos k (.ref it) .none X.env))) fs s4) →
          Seg (model X.prog X.w) A R Y n s₀ (cG elt gens scope pos k (.ref it) .none X.env) ((model X.prog X.w).den (cG elt gens scope pos k (.ref it) .none X.env)) fs s := by
        intro N Nr n s₀ fs A R Y pins s σ H O G it fp tn J hA hsp hgd I hold Tn st hf io hσ hnext
        have fpok : ∀ H', (∀ b ∈ fp, H' b = none) → ∀ b ∈ fp, FpOk X pins H' b := fun H' hn b hb => ⟨hn b hb, (hf b hb).2⟩
        refine segG_out hk0 hk1 fd1 ?_
        rw [hA]
        refine thnX (Tn.item X rfl rfl rfl hc i pins s σ H (fun _ _ => False) I hf st (io.go G H i (fun _ _ h => h) hold.sub hlt)) (fun _ _ z => z) fun r s1 ⟨u, hr, h1⟩ => ?_
        subst hr
        refine thnX h1 (fun _ _ z => z) fun _ s2 ⟨x, H2, I2, r2, y2, st2, fn2⟩ => ?_
        obtain ⟨d, G2, hid, tn2, rep2⟩ := io.yld G H i x H2 (fun _ _ h => h) hold.sub hold.ntb hlt y2
        have hdd : d = L[i] := by rw [List.getElem?_eq_getElem hlt] at hid; exact (Option.some.inj hid).symm
        subst hdd
        have hold2 := hold.trn tn2
        have I2' := I2.pinned (fpok H2 fn2) (Tn.obj _ _ st2)
        refine thnX (pg.run _ s2 σ H2 x u (fun σ3 H3 => H3 = H2 ∧ (∀ j, j ∉ dc.tg.slots → σ3[j]? = σ[j]?) ∧ σ3.length = σ.length ∧ Hold (cnOf X) T O G2 σ3 H2 ρ1) I2' r2 ⟨O, G2, ρ, L[i], hold2, rep2, ρ1, q1, fun σ3 h1 h2 h3 => ⟨rfl, h1, h2, h3⟩⟩) hxe fun _ s3 ⟨σ3, H3, I3, e3, hs3, hl3, hold3⟩ => ?_
        subst e3
        refine thnX (pt.run _ s3 σ3 H3 (fun b' H4 => b' = bc ∧ ∃ G4, Tr O G2 H3 G4 H4 ∧ Hold (cnOf X) T O G4 σ3 H4 ρ2) I3 ⟨O, G2, ρ1, hold3, by rw [q2]; exact fun G4 H4 t4 h4 => ⟨rfl, G4, t4, h4⟩⟩) hxe fun b' s4 ⟨H4, I4, e4, G4, tr4, hold4⟩ => ?_
        subst e4
        refine hnext s4 σ3 H4 G4 _ hs3 hl3 I4 hold4 (Tr.trans' tn2.tr tr4) (Same.trans tn2.g tr4.g) fun s5 H5 G5 ρ5 I5 hold5 tr5 => ?_
        have pin' : ∀ b ∈ fp, ∀ o, s2.heap.get? b = some o → s5.heap.get? b = some o ∧ H5 b = none := fun b hb o eo =>
          let z := I5.pin (b, o) (List.mem_append_right _ (List.mem_append_right _ (mem_pinsAt hb eo)))
          ⟨z.1, z.2.1⟩
        refine ⟨I5.unpinned.weak hl3.symm (fun j v ej => ?_), hold5.wiped hl3.symm hold.lnt hs3, Tn.keep _ _ _ st2 fun b hb o eo => (pin' b hb o eo).1, fpok H5 fun b hb => ?_⟩
        · rw [hs3 j (fun hj => hσ j (List.mem_append_left _ hj) v ej)]
          exact ej
        · obtain ⟨o, eo, _⟩ := Tn.obj _ _ st2 b hb
          exact (pin' b hb o eo).2
      cases bc with
      | false =>
        simp only [Bool.false_eq_true, if_false] at hce main
        obtain ⟨N, hN⟩ := ih L (i + 1) _ b ρ' (by omega) (by omega) hce
        refine ⟨N, fun Nr n s₀ fs A R Y pins s σ H O G it fp tn J hn hA hsp hgd I hold Tn st hf io hσ hY hend hstp => ?_⟩
        refine main 0 0 n s₀ fs A R Y pins s σ H O G it fp tn J hA hsp hgd I hold Tn st hf io hσ fun s4 σ3 H4 G4 pins4 hs3 hl3 I4 hold4 tr4 sg4 back => ?_
        obtain ⟨I5, hold5, st5, hf5⟩ := back s4 H4 G4 ρ2 I4 hold4 .refl
        refine seg_again rfl (hN Nr n s₀ fs A R Y pins s4 σ H4 O G4 it fp tn J hn hA hsp hgd I5 hold5 Tn st5 hf5 (io.mono sg4) hσ hY (fun e n' s₀' s' hn' ⟨H6, G6, I6, hold6, tr6⟩ => hend e n' s₀' s' hn' ⟨H6, G6, I6, hold6, tr4.trans' tr6⟩)
          fun e m s₀' s6 kap pins6 σ6 H6 G6 bb hbb I6 hold6 tr6 h1 h2 => hstp e m s₀' s6 kap pins6 σ6 H6 G6 bb hbb I6 hold6 (tr4.trans' tr6) h1 h2)
      | true =>
        simp only [if_true, anyGo] at hce main
        cases q3 : dc1.it ρ2 with
        | bad => rw [q3] at hce; cases hce
        | exc x ρx => rw [q3] at hce; cases hce
        | ok items1 ρ6 =>
        rw [q3] at hce
        simp only [Res.bind_ok] at hce
        cases q4 : anyItems dc1.tg dc1.cond (anyGo stop eltF dcs1) items1 ρ6 with
        | bad => rw [q4] at hce; cases hce
        | exc x ρx => rw [q4] at hce; cases hce
        | ok st ρ3 =>
        rw [q4] at hce
        simp only [Res.bind_ok] at hce
        obtain ⟨N1, hN1⟩ := ihc dcs1 ⟨t1, i1, ifs1, 0⟩ dc1 (k + 1) (fun j => by have := hk (j + 1); rw [show k + 1 + j = k + (j + 1) by omega]; simpa using this) ok1 hins nd2 items1.length items1 0 ρ6 st ρ3 (by omega) (Nat.zero_le _) (by simpa using q4)
        -- the inner source is begun
        have inner : ∀ (n : Nat) (s₀ : Shared) (fs : List Frame) (A : Around) (R : GenEnd) (Y : Protocol) (it : Addr) (pins4 : List (Addr × Obj)) (s4 : Shared) (σ3 σ : St) (H4 : Hp) (O : Addr → Prop) (G4 : Hp) (Nr' : Nat), N1 + Nr' ≤ n →
            A.over (cG elt gens scope pos k (.ref it) .none X.env) fs = X.A → splitAtGen fs = none → fs.any Frame.guarded = false → Inv X pins4 σ3 H4 s4 → Hold (cnOf X) T O G4 σ3 H4 ρ2 → (∀ j ∈ dc.tg.slots ++ allSlots (dc1 :: dcs1), ∀ v, σ[j]? ≠ some (some v)) → (∀ j, j ∉ dc.tg.slots → σ3[j]? = σ[j]?) → YGo X stop Y →
            (st = false → ∀ n' s₀' s5, Nr' ≤ n' → GAt X T pins4 O G4 H4 σ3 ρ3 s5 → Seg (model X.prog X.w) A R Y n' s₀' (cG elt gens scope pos k (.ref it) .none X.env) (.pure (.again (cG elt gens scope pos k (.ref it) .none X.env))) fs s5) →
            (st = true → ∀ m s₀' s5 kap pins'' σ'' H'' G'' bb, (bb == stop) = true → Inv X pins'' σ'' H'' s5 → Hold (cnOf X) T O G'' σ'' H'' ρ3 → Tr O G4 H4 G'' H'' → (∀ j, j ∉ dc1.tg.slots ++ allSlots dcs1 → σ''[j]? = σ3[j]?) → σ''.length = σ3.length → Y m s₀' (.bool bb) s5 kap) →
            wpAny (model X.prog X.w) X.A (eval i1 X.env) (fun x s₄ => wpAny (model X.prog X.w) X.A (pyIter x) (fun it1 s₅ =>
              ∀ (KK : Result → Sem PySem.Fin) (lvl : List Value) (p : Pos), (∀ n' s₀' f s'', Seg (model X.prog X.w) A R Y n' s₀' (cG elt gens scope pos k (.ref it) .none X.env) (.pure (.again (cG elt gens scope pos k (.ref it) .none X.env))) fs s'' → Seg (model X.prog X.w) A R Y n' s₀' (cG elt gens scope pos k (.ref it) .none X.env) (KK (.ok f)) fs s'') →
                Seg (model X.prog X.w) A R Y n s₀ (.compStart (.GeneratorExp elt gens scope pos) (k + 1) it1 .none X.env) ((model X.prog X.w).den (.compStart (.GeneratorExp elt gens scope pos) (k + 1) it1 .none X.env)) (.ret KK none false lvl (cG elt gens scope pos k (.ref it) .none X.env) p [] :: fs) s₅) (fun _ _ => False) s₄) (fun _ _ => False) s4 := by
          intro n s₀ fs A R Y it pins4 s4 σ3 σ H4 O G4 Nr' hn hA hsp hgd I4 hold4 hσ hs3 hY hend hstp
          refine thnX (pi1.run pins4 s4 σ3 H4 (fun J1 H6 => ∃ G6, Tr O G4 H4 G6 H6 ∧ Hold (cnOf X) T O G6 σ3 H6 ρ6 ∧ IterOk (cnOf X) J1 G6 items1) I4 ⟨O, G4, ρ2, hold4, by rw [q3]; exact fun J1 G6 H6 t6 h6 i6 => ⟨G6, t6, h6, i6⟩⟩) hxe fun xv s6 h6 => ?_
          refine thnX h6 hxe fun itv s7 h7 => ?_
          obtain ⟨it1, fp1, tn1, J1, H6, e1, I7, T1, st7, f7, G6, tr6, hold6, io1⟩ := h7
          subst e1
          intro KK lvl p hKK
          have hσ1 : ∀ j ∈ dc1.tg.slots ++ allSlots dcs1, ∀ v, σ3[j]? ≠ some (some v) := fun j hj v => by
            have hj' : j ∈ allSlots (dc1 :: dcs1) := hj
            rw [hs3 j (fun hm => (List.nodup_append.mp nd).2.2 j hm j hj' rfl)]
            exact hσ j (List.mem_append_right _ hj') v
          have hA1 : A.over (cG elt gens scope pos (k + 1) (.ref it1) .none X.env) (.ret KK none false lvl (cG elt gens scope pos k (.ref it) .none X.env) p [] :: fs) = X.A := (over_loop rfl rfl).trans hA
          have hsp1 : splitAtGen (.ret KK none false lvl (cG elt gens scope pos k (.ref it) .none X.env) p [] :: fs) = none := by
            show (splitAtGen fs).map _ = none
            rw [hsp]; rfl
          have hgd1 : (Frame.ret KK none false lvl (cG elt gens scope pos k (.ref it) .none X.env) p [] :: fs).any Frame.guarded = false := by
            show (false || fs.any Frame.guarded) = false
            rw [hgd]; rfl
          have loop := hN1 Nr' n s₀ (.ret KK none false lvl (cG elt gens scope pos k (.ref it) .none X.env) p [] :: fs) A R Y pins4 s7 σ3 H6 O G6 it1 fp1 tn1 J1 hn hA1 hsp1 hgd1 I7 hold6 T1 st7 f7 io1 hσ1 hY
            (fun e n' s₀' s8 hn' ⟨H8, G8, I8, hold8, tr8⟩ => seg_leaf (.ok .next) (hKK n' s₀' .next s8 (hend e n' s₀' s8 hn' ⟨H8, G8, I8, hold8, tr6.trans' tr8⟩)))
            (fun e m s₀' s8 kap pins8 σ8 H8 G8 bb hbb I8 hold8 tr8 h1 h2 => hstp e m s₀' s8 kap pins8 σ8 H8 G8 bb hbb I8 hold8 (tr6.trans' tr8) h1 h2)
          exact segG_start hk1 loop (T1.self _ _ _ _ _ st7 loop)
        have out : ∀ j, j ∉ dc.tg.slots ++ allSlots (dc1 :: dcs1) → j ∉ dc.tg.slots ∧ j ∉ dc1.tg.slots ++ allSlots dcs1 := fun j hj => by
          rw [List.mem_append, not_or] at hj
          exact hj
        by_cases hst : st = true
        · subst hst
          rw [if_pos rfl] at hce
          cases hce
          refine ⟨N1, fun Nr n s₀ fs A R Y pins s σ H O G it fp tn J hn hA hsp hgd I hold Tn st hf io hσ hY hend hstp => ?_⟩
          refine main 0 0 n s₀ fs A R Y pins s σ H O G it fp tn J hA hsp hgd I hold Tn st hf io hσ fun s4 σ3 H4 G4 pins4 hs3 hl3 I4 hold4 tr4 sg4 back => ?_
          refine inner n s₀ fs A R Y it pins4 s4 σ3 σ H4 O G4 Nr hn hA hsp hgd I4 hold4 hσ hs3 hY (fun e => by cases e) fun _ m s₀' s5 kap pins5 σ5 H5 G5 bb hbb I5 hold5 tr5 h1 h2 => ?_
          exact hstp rfl m s₀' s5 kap pins5 σ5 H5 G5 bb hbb I5 hold5 (tr4.trans' tr5) (fun j hj => (h1 j (out j hj).2).trans (hs3 j (out j hj).1)) (h2.trans hl3)
        · have hsf : st = false := by simpa using hst
          subst hsf
          rw [if_neg hst] at hce
          obtain ⟨N, hN⟩ := ih L (i + 1) _ b ρ' (by omega) (by omega) hce
          refine ⟨N1 + N, fun Nr n s₀ fs A R Y pins s σ H O G it fp tn J hn hA hsp hgd I hold Tn st hf io hσ hY hend hstp => ?_⟩
          refine main 0 0 n s₀ fs A R Y pins s σ H O G it fp tn J hA hsp hgd I hold Tn st hf io hσ fun s4 σ3 H4 G4 pins4 hs3 hl3 I4 hold4 tr4 sg4 back => ?_
          refine inner n s₀ fs A R Y it pins4 s4 σ3 σ H4 O G4 (N + Nr) (by omega) hA hsp hgd I4 hold4 hσ hs3 hY (fun _ n' s₀' s5 hn' ⟨H5, G5, I5, hold5, tr5⟩ => ?_) fun e => by cases e
          obtain ⟨I7, hold7, st7, hf7⟩ := back s5 H5 G5 ρ3 I5 hold5 tr5
          refine seg_again rfl (hN Nr n' s₀' fs A R Y pins s5 σ H5 O G5 it fp tn J hn' hA hsp hgd I7 hold7 Tn st7 hf7 (io.mono (sg4.trans tr5.g)) hσ hY
            (fun e n' s₀' s' hn' ⟨H8, G8, I8, hold8, tr8⟩ => hend e n' s₀' s' hn' ⟨H8, G8, I8, hold8, (tr4.trans' tr5).trans' tr8⟩)
            fun e m' s₀' s8 kap pins8 σ8 H8 G8 bb hbb I8 hold8 tr8 h1 h2 => hstp e m' s₀' s8 kap pins8 σ8 H8 G8 bb hbb I8 hold8 ((tr4.trans' tr5).trans' tr8) h1 h2)
end
end Sd
set_option Elab.async false
set_option linter.all false
set_option maxRecDepth 100000
set_option maxHeartbeats 4000000
set_option autoImplicit false
/-! Sd: any, all of generator expressions: the generator is made; its block; the consumer. -/
namespace Sd
open PySem PySem.Spec PyProof.Rows L2 GenW GxR

theorem eval_GenN (elt target iter : Expr) (ifs : List Expr) (cls : List Comprehension) (scope : Scope) (pos : Pos) (env : PySem.Env) (hco : scope.isCoroutine = false) :
    eval (.GeneratorExp elt (⟨target, iter, ifs, 0⟩ :: cls) scope pos) env = (do
      let x ← eval iter env
      standAt iter.pos
      let x ← genFold iter env x
      let it ← holding [x] (pyIter x)
      enterFrame
      let cl ← closureFor scope env
      let code ← genexprCode env pos (env.qual ++ "<genexpr>") scope
      let bi ← builtinsFor env.globals env.builtins
      let cenv ← newFunctionEnv scope env.globals cl [(".0", it)] (env.qual ++ "<genexpr>.") none code none bi
      newGenerator (.compStart (.GeneratorExp elt (⟨target, iter, ifs, 0⟩ :: cls) scope pos) 0 it .none cenv) "<genexpr>" (env.qual ++ "<genexpr>")) := by
  rw [arm_eval_GeneratorExp]
  simp only [hco, Bool.false_eq_true, if_false]
  cases iter <;> rfl

/-- the scope of a generator expression: own names (with their places) local; captured ones -/
structure GBlk (N : List Str) (sc scope : Scope) (own : List (Str × Nat)) : Prop where
  kind : scope.kind = .function
  co : scope.isCoroutine = false
  ix : ∀ p ∈ own, N[p.2]? = some p.1
  dot : scope.names.lookup (".0" : Str) = some NameKind.local
  cell : ∀ y ∈ scope.names, y.2 ≠ .cell
  uniq : ∀ y ∈ scope.names, scope.names.lookup y.1 = some y.2
  free : ∀ y ∈ scope.names, y.2 = .free → sc.names.lookup y.1 = some .cell ∨ sc.names.lookup y.1 = some .free
  loc : ∀ y ∈ scope.names, y.2 = .local → y.1 ∈ own.map (·.1) ∨ y.1 ∉ N

abbrev genObj (g : Nat) (q : Str) (tk : Nat) : Obj := { cls := .type "generator", data := .fields #[.int g 0, .str "<genexpr>" (tk + 1), .str q (tk + 1 + 1)] }
/-- the context of the generator's block: s4, H4: ahead of its frame; A: the around of its resumption -/
abbrev genX (X : Cx) (A : Around) (s4 : Shared) (H4 : Hp) (cenv : PySem.Env) (fp : List Addr) (pn : List (Addr × Obj)) : Cx :=
  { X with A := A.deeper cenv, s_0 := s4, H_0 := H4, env := cenv, outer := X.stack, stack := cenv :: X.stack, ex := fp, fn := fun _ => false, pn := pn, xe := fun _ _ => False }
theorem over_gen {A : Around} {elt : Expr} {gens : List Comprehension} {scope : Scope} {pos : Pos} {it acc : Value} {env : PySem.Env} : A.over (cG elt gens scope pos 0 it acc env) [] = A.deeper env := by
  first
    | rfl
    | (obtain ⟨hd, d, fr, gs, u⟩ := A; simp [Around.over, Around.deeper, marksOver, frameCount, unitsOf, envsOf, guardsOf, pushEnvs, pushGuards, Code.envs, Code.env?, Code.isFrame, Code.guards, Code.isGuard, Code.weight, Code.frames, Code.isCreation, Code.isCaller, Code.cUnits])
theorem over_genS {A : Around} {elt : Expr} {gens : List Comprehension} {scope : Scope} {pos : Pos} {it acc : Value} {env : PySem.Env} : A.over (.compStart (.GeneratorExp elt gens scope pos) 0 it acc env) [] = A.deeper env := by
  first
    | rfl
    | (obtain ⟨hd, d, fr, gs, u⟩ := A; simp [Around.over, Around.deeper, marksOver, frameCount, unitsOf, envsOf, guardsOf, pushEnvs, pushGuards, Code.envs, Code.env?, Code.isFrame, Code.guards, Code.isGuard, Code.weight, Code.frames, Code.isCreation, Code.isCaller, Code.cUnits])

section
variable {X : Cx} {pins : List (Addr × Obj)} {σ : St} {H : Hp} {s : Shared}
theorem gen_start {A : Around} {scope : Scope} {own : List (Str × Nat)} {fp : List Addr} {code : Value} {s5 : Shared} {pn : List (Addr × Obj)} {mm : Str → Option Value}
    (I : Inv X pins σ H s) (hA : A.handled = none) (hAf : A.frames = some X.stack) (ok : GBlk X.N X.env.scope scope own) (hN : X.N.Nodup) (hfp : ∀ b ∈ fp, FpOk X pins H b ∧ b < s.heap.objs.size)
    (hn5 : s5.heap.Ns s.heap.objs.size mm) (hk5 : ∀ b o, s.heap.get? b = some o → s5.heap.get? b = some o) (hos : s5.os = s.os) (hb5 : AllBare s5.gens)
    (hpn : ∀ p ∈ pn, s5.heap.get? p.1 = some p.2 ∧ s.heap.objs.size < p.1 ∧ ∀ v, p.2.data ≠ .cell v) :
    Inv (genX X A s H (genEnv scope (cloFrom X.env.cells scope.names []) s.heap.objs.size code builtinsNs X.env) fp pn) [] (wipe σ (own.map (·.2))) H s5 := by
  have hfree : ∀ y ∈ scope.names, y.2 = .free → ∃ c, X.env.cells.lookup y.1 = some c := fun y hy e => by
    rcases ok.free y hy e with k | k
    · exact I.ok.has _ (.inl k)
    · exact I.ok.has _ (.inr k)
  generalize hcenv : genEnv scope (cloFrom X.env.cells scope.names []) s.heap.objs.size code builtinsNs X.env = cenv
  have hL : cenv.locals = s.heap.objs.size := by rw [← hcenv]; rfl
  have hcl : cenv.cells = cloFrom X.env.cells scope.names [] := by rw [← hcenv]; rfl
  have hsc : cenv.scope = scope := by rw [← hcenv]; rfl
  have hbi : cenv.builtins = builtinsNs := by rw [← hcenv]; rfl
  have cm : ∀ {y c}, (y, c) ∈ cloFrom X.env.cells scope.names [] → X.env.cells.lookup y = some c ∧ c < s.heap.objs.size := fun {y c} hm => by
    rcases cloFrom_mem hm with hm | ⟨h1, rfl⟩
    · cases hm
    · obtain ⟨c, hc⟩ := hfree _ h1 rfl
      rw [hc]
      obtain ⟨w, z⟩ := I.cell _ _ hc
      exact ⟨rfl, z.lt⟩
  have mem : ∀ {y c}, cenv.cells.lookup y = some c → X.env.cells.lookup y = some c ∧ c < s.heap.objs.size := fun {y c} e => by
    rw [hcl] at e
    exact cm (PySem.mem_of_lookup e)
  have look : ∀ {y}, scope.names.lookup y = some .free → ∃ c, cenv.cells.lookup y = some c ∧ X.env.cells.lookup y = some c := fun {y} hl => by
    have hy : (y, NameKind.free) ∈ scope.names := PySem.mem_of_lookup hl
    obtain ⟨c', e'⟩ := mem_lookup (cloFrom_has (cells := X.env.cells) (acc := []) hy)
    rw [← hcl] at e'
    exact ⟨c', e', (mem e').1⟩
  have okB : (genX X A s H cenv fp pn).Ok := by
    refine ⟨I.ok.mod, by show cenv.scope.kind = _; rw [hsc]; exact ok.kind, by show cenv.globals = _; rw [← hcenv]; exact I.ok.glob, by show cenv.builtins = _; exact hbi, by show s.heap.objs.size ≤ cenv.locals; rw [hL]; exact Nat.le_refl _,
      fun y z c e1 e2 => I.ok.inj y z c (mem e1).1 (mem e2).1, fun y hy => ?_, fun y c z e => absurd z Bool.false_ne_true, fun _ => hA, Around.frames_deeper hAf, .inr ⟨rfl, ?_⟩, fun b hb => ⟨?_, fun y c e z => (hfp b hb).1.2.2.2.2.1 y c (mem e).1 z⟩, I.bs, Nat.le_trans I.ok.bsz I.sz, fun b o e hb => ?_, fun b hb z => ?_, I.stack, I.stkFree⟩
    · show ∃ c, cenv.cells.lookup y = some c
      have key : ∀ k, scope.names.lookup y = some k → (k = .cell ∨ k = .free) → ∃ c, cenv.cells.lookup y = some c := fun k hk hk' => by
        rcases hk' with rfl | rfl
        · exact absurd rfl (ok.cell _ (PySem.mem_of_lookup hk))
        · obtain ⟨c, h1, _⟩ := look hk
          exact ⟨c, h1⟩
      have hy : cenv.scope.names.lookup y = some .cell ∨ cenv.scope.names.lookup y = some .free := hy
      rw [hsc] at hy
      rcases hy with hy | hy
      · exact key _ hy (.inl rfl)
      · exact key _ hy (.inr rfl)
    · show cenv.frame = some cenv.locals
      rw [← hcenv]
      rfl
    · show b ≠ cenv.locals
      rw [hL]; exact Nat.ne_of_lt (hfp b hb).2
    · rcases (hfp b hb).1.2.2.2.1 with z | z
      · exact I.ok.noex b o e z
      · exact absurd (Nat.lt_of_lt_of_le (Heap.lt_size e) (Nat.le_trans I.ok.bsz z)) (Nat.lt_irrefl _)
    · rcases List.mem_cons.mp (I.stkSub b z) with z | z
      · exact (hfp b hb).1.2.1 z
      · exact (hfp b hb).1.2.2.1 z
  refine ⟨okB, hos, hb5, Un.kept hk5, ⟨mm, ?_, fun i y av e1 e2 e3 => ?_⟩, fun y c e => ?_, ?_, fun y c e => ?_, fun p hp => ?_, I.hok.kept hk5, by rw [wipe_length]; exact I.len⟩
  · show Heap.Ns _ cenv.locals _
    rw [hL]
    exact hn5
  · obtain ⟨e2, hne⟩ := wipe_some e2
    have e3 : Vis cenv.scope y := e3
    rw [hsc] at e3
    have hfr : scope.names.lookup y = some .free := by
      rcases e3 with e3 | e3 | e3
      · exfalso
        rcases ok.loc _ (PySem.mem_of_lookup e3) rfl with e' | e'
        · obtain ⟨p, hp, hpy⟩ := List.mem_map.mp e'
          have e4 := ok.ix p hp
          have : p.1 = y := hpy
          rw [this] at e4
          exact hne (List.mem_map.mpr ⟨p, hp, nodup_ix hN e4 e1⟩)
        · exact e' (List.mem_of_getElem? e1)
      · exact absurd rfl (ok.cell _ (PySem.mem_of_lookup e3))
      · exact e3
    obtain ⟨m, hn, hl⟩ := I.loc
    have hvis : Vis X.env.scope y := (ok.free _ (PySem.mem_of_lookup hfr) rfl).elim (fun k => .inr (.inl k)) (fun k => .inr (.inr k))
    obtain ⟨w, r, q⟩ := hl i y av e1 e2 hvis
    refine ⟨w, r, .inr ⟨.inr ?_, ?_⟩⟩
    · show cenv.scope.names.lookup y = _
      rw [hsc]; exact hfr
    obtain ⟨c, h1, h2⟩ := look hfr
    rcases q with ⟨k, _⟩ | ⟨_, c', e', z⟩
    · have k : X.env.scope.names.lookup y = some .local := k
      rcases ok.free _ (PySem.mem_of_lookup hfr) rfl with k' | k' <;> rw [show X.env.scope.names.lookup y = _ from k'] at k <;> cases k
    · rw [h2] at e'; cases e'
      exact ⟨c, h1, z.keeps hk5⟩
  · obtain ⟨h1, _⟩ := mem e
    obtain ⟨w, z⟩ := I.cell y c h1
    exact ⟨w, z.keeps hk5⟩
  · show H cenv.locals = none
    rw [hL]; exact I.hok.fresh (Nat.le_refl _)
  · exact I.freeC y c (mem e).1
  · have hp : p ∈ pn := by
      have hp : p ∈ pn ++ [] := hp
      simpa using hp
    obtain ⟨h1, h2, h3⟩ := hpn p hp
    refine ⟨h1, I.hok.fresh (Nat.le_of_lt h2), ?_, ?_, h3⟩
    · show p.1 ≠ cenv.locals
      rw [hL]; exact Nat.ne_of_gt h2
    · intro hb
      have hb : p.1 ∈ frs X.stack := hb
      rcases List.mem_cons.mp (I.stkSub p.1 hb) with z | z
      · have := I.lt
        rw [← z] at this
        exact absurd (Nat.lt_trans h2 this) (Nat.lt_irrefl _)
      · exact I.nofs (Nat.le_of_lt h2) z
end

/-! ### the consumer -/
/-- what the generator says to all, any -/
def GY' (stop : Bool) (a : Addr) (g : Nat) (Stp : Shared → Prop) : Protocol := fun n s₀ v s kap =>
  ∃ b, v = Value.bool b ∧ AllBare s.gens ∧ s.heap.NoLimit ∧ s.heap.IsGen a g ∧ ((b == stop) = true → Stp s) ∧ ((b == stop) = false → ∀ s', Woke s s' → kap (.send .none) s')
def GR' (Fin : Shared → Prop) : GenEnd := fun n s₀ r s => r = .ok .next ∧ Fin s
section
variable {prog : Program} {w : World} {A : Around} {R : Result → Shared → Prop}
theorem consume_all {a : Addr} {g : Nat} {Stp Fin : Shared → Prop} (hh : A.handled = none) (hd : A.depth < recursionLimit)
    (hfin : ∀ s1, Fin s1 → ∀ h', (∀ b o, s1.heap.get? b = some o → h'.get? b = some o) → R (.ok (.ret (.bool true))) { s1.setGen g .finished with heap := h' })
    (hstp : ∀ (s1 : Shared) (gs' : GenState), gs'.bare = true → AllBare s1.gens → Stp s1 → R (.ok (.ret (.bool false))) (s1.setGen g gs')) :
    ∀ (n : Nat) (s : Shared), s.heap.IsGen a g → s.heap.NoLimit → AllBare s.gens → (∃ gs, s.gens[g]? = some gs ∧ ∀ s', Woke s s' → gs.Goes (model prog w) A.in1.in1 (GR' Fin) (GY' false a g Stp) n (.send .none) s') →
      codeAny (model prog w) A (.builtin "all.loop" ⟨[.ref a], []⟩) R s := by
  intro n
  induction n with
  | zero =>
    intro s hg hl hb ⟨gs, hgs, hgo⟩
    have hgl : g < s.gens.size := (Array.getElem?_eq_some_iff.mp hgs).1
    refine codeAny_builtin F.entry_all_loop ?_
    rw [Around.under_plainId F.plain_all_loop _]
    show wpAny _ A.in1 (pyNext (.ref a) >>= _) _ _ s
    refine wpAny_bind (wpAny_pyNext_genexpQ (A := A.in1) (P := fun n s₀ s1 => Fin s1) hh hl hd hg hgs (hgo _ ⟨rfl, rfl, allBare_setGen hb rfl⟩) (fun v s₁ gs' hbare hv => ?_) (fun s₁ hp h' hk => ?_))
    · obtain ⟨b, rfl, hb1, hl1, hg1, q1, q2⟩ := hv
      cases b with
      | true => exact (q2 (by rfl) s₁ ⟨rfl, rfl, hb1⟩).elim
      | false =>
        refine wpAny_bind (wpAny_holding (wpAny_truthy_bool ?_))
        refine wpAny_bind (wpAny_letGo ?_)
        exact wpAny_bind (wpAny_rule (wpAny_pure (hstp s₁ gs' hbare hb1 (q1 (by rfl)))))
    · exact wpAny_bind (wpAny_rule (wpAny_pure (hfin s₁ hp h' hk)))
  | succ n ih =>
    intro s hg hl hb ⟨gs, hgs, hgo⟩
    have hgl : g < s.gens.size := (Array.getElem?_eq_some_iff.mp hgs).1
    refine codeAny_builtin F.entry_all_loop ?_
    rw [Around.under_plainId F.plain_all_loop _]
    show wpAny _ A.in1 (pyNext (.ref a) >>= _) _ _ s
    refine wpAny_bind (wpAny_gsz (n := g + 1) hgl (wpAny_pyNext_genexpQ (A := A.in1) (P := fun n s₀ s1 => Fin s1) hh hl hd hg hgs (hgo _ ⟨rfl, rfl, allBare_setGen hb rfl⟩) (fun v s₁ gs' hbare hv => ?_) (fun s₁ hp h' hk => ?_)))
    · intro hsz
      obtain ⟨b, rfl, hb1, hl1, hg1, q1, q2⟩ := hv
      have hgl1 : g < s₁.gens.size := by
        have q : (s₁.setGen g gs').gens.size = s₁.gens.size := setGen_size s₁ g gs'
        omega
      cases b with
      | true =>
        refine wpAny_bind (wpAny_holding (wpAny_truthy_bool ?_))
        refine wpAny_bind (wpAny_letGo ?_)
        refine wpAny_pure ⟨plainId_quiet F.plain_all_loop _, ih (s₁.setGen g gs') hg1 hl1 (allBare_setGen hb1 hbare) ⟨gs', setGen_at hgl1, fun s' wk => q2 (by rfl) s' ⟨wk.heap, wk.os, wk.bare⟩⟩⟩
      | false =>
        refine wpAny_bind (wpAny_holding (wpAny_truthy_bool ?_))
        refine wpAny_bind (wpAny_letGo ?_)
        exact wpAny_bind (wpAny_rule (wpAny_pure (hstp s₁ gs' hbare hb1 (q1 (by rfl)))))
    · intro _
      exact wpAny_bind (wpAny_rule (wpAny_pure (hfin s₁ hp h' hk)))
theorem consume_any {a : Addr} {g : Nat} {Stp Fin : Shared → Prop} (hh : A.handled = none) (hd : A.depth < recursionLimit)
    (hfin : ∀ s1, Fin s1 → ∀ h', (∀ b o, s1.heap.get? b = some o → h'.get? b = some o) → R (.ok (.ret (.bool false))) { s1.setGen g .finished with heap := h' })
    (hstp : ∀ (s1 : Shared) (gs' : GenState), gs'.bare = true → AllBare s1.gens → Stp s1 → R (.ok (.ret (.bool true))) (s1.setGen g gs')) :
    ∀ (n : Nat) (s : Shared), s.heap.IsGen a g → s.heap.NoLimit → AllBare s.gens → (∃ gs, s.gens[g]? = some gs ∧ ∀ s', Woke s s' → gs.Goes (model prog w) A.in1.in1 (GR' Fin) (GY' true a g Stp) n (.send .none) s') →
      codeAny (model prog w) A (.builtin "any.loop" ⟨[.ref a], []⟩) R s := by
  intro n
  induction n with
  | zero =>
    intro s hg hl hb ⟨gs, hgs, hgo⟩
    have hgl : g < s.gens.size := (Array.getElem?_eq_some_iff.mp hgs).1
    refine codeAny_builtin F.entry_any_loop ?_
    rw [Around.under_plainId F.plain_any_loop _]
    show wpAny _ A.in1 (pyNext (.ref a) >>= _) _ _ s
    refine wpAny_bind (wpAny_pyNext_genexpQ (A := A.in1) (P := fun n s₀ s1 => Fin s1) hh hl hd hg hgs (hgo _ ⟨rfl, rfl, allBare_setGen hb rfl⟩) (fun v s₁ gs' hbare hv => ?_) (fun s₁ hp h' hk => ?_))
    · obtain ⟨b, rfl, hb1, hl1, hg1, q1, q2⟩ := hv
      cases b with
      | false => exact (q2 (by rfl) s₁ ⟨rfl, rfl, hb1⟩).elim
      | true =>
        refine wpAny_bind (wpAny_holding (wpAny_truthy_bool ?_))
        refine wpAny_bind (wpAny_letGo ?_)
        exact wpAny_bind (wpAny_rule (wpAny_pure (hstp s₁ gs' hbare hb1 (q1 (by rfl)))))
    · exact wpAny_bind (wpAny_rule (wpAny_pure (hfin s₁ hp h' hk)))
  | succ n ih =>
    intro s hg hl hb ⟨gs, hgs, hgo⟩
    have hgl : g < s.gens.size := (Array.getElem?_eq_some_iff.mp hgs).1
    refine codeAny_builtin F.entry_any_loop ?_
    rw [Around.under_plainId F.plain_any_loop _]
    show wpAny _ A.in1 (pyNext (.ref a) >>= _) _ _ s
    refine wpAny_bind (wpAny_gsz (n := g + 1) hgl (wpAny_pyNext_genexpQ (A := A.in1) (P := fun n s₀ s1 => Fin s1) hh hl hd hg hgs (hgo _ ⟨rfl, rfl, allBare_setGen hb rfl⟩) (fun v s₁ gs' hbare hv => ?_) (fun s₁ hp h' hk => ?_)))
    · intro hsz
      obtain ⟨b, rfl, hb1, hl1, hg1, q1, q2⟩ := hv
      have hgl1 : g < s₁.gens.size := by
        have q : (s₁.setGen g gs').gens.size = s₁.gens.size := setGen_size s₁ g gs'
        omega
      cases b with
      | false =>
        refine wpAny_bind (wpAny_holding (wpAny_truthy_bool ?_))
        refine wpAny_bind (wpAny_letGo ?_)
        refine wpAny_pure ⟨plainId_quiet F.plain_any_loop _, ih (s₁.setGen g gs') hg1 hl1 (allBare_setGen hb1 hbare) ⟨gs', setGen_at hgl1, fun s' wk => q2 (by rfl) s' ⟨wk.heap, wk.os, wk.bare⟩⟩⟩
      | true =>
        refine wpAny_bind (wpAny_holding (wpAny_truthy_bool ?_))
        refine wpAny_bind (wpAny_letGo ?_)
        exact wpAny_bind (wpAny_rule (wpAny_pure (hstp s₁ gs' hbare hb1 (q1 (by rfl)))))
    · intro _
      exact wpAny_bind (wpAny_rule (wpAny_pure (hfin s₁ hp h' hk)))
end
end Sd
set_option Elab.async false
set_option linter.all false
set_option maxRecDepth 100000
set_option maxHeartbeats 4000000
set_option autoImplicit false
/-! Sd: any, all of generator expressions as wholes. -/
namespace Sd
open PySem PySem.Spec PyProof.Rows L2 GenW GxR

theorem Hold.restore' {c : Cn} {T : Fx} {O : Addr → Prop} {G G' H H' : Hp} {σ σ2 : St} {ρ1 ρ2 : Ev} {vs : List Nat} (h1 : Hold c T O G σ H ρ1) (h2 : Hold c T O G' σ2 H' ρ2) (hs : Same G G') (hv : ∀ i, i ∉ vs → σ2[i]? = σ[i]?) (hl : σ2.length = σ.length) : Hold c T O G' σ H' (restoreE ρ1 ρ2 vs) where
  sub := h2.sub
  ntb := h2.ntb
  oin := h2.oin
  tab := h2.tab
  lnt := h1.lnt
  len := by rw [restoreE_length, h2.len, hl]
  slot := fun i s hi => by
    rcases restoreE_some hi with ⟨hn, hi⟩ | ⟨hm, hi, d, rfl⟩
    · obtain ⟨v, e, q⟩ := h2.slot i s hi
      exact ⟨v, by rw [← hv i hn]; exact e, q⟩
    · obtain ⟨v, e, q⟩ := h1.slot i _ hi
      exact ⟨v, e, Rep.mono hs q⟩
  apart := fun i j o o' a hij hi hj ha => by
    rcases restoreE_some hi with ⟨hn, hi⟩ | ⟨_, _, d, hd⟩
    · rcases restoreE_some hj with ⟨hn', hj⟩ | ⟨_, _, d, hd⟩
      · have := h2.apart i j o o' a hij hi hj (by rw [hv i hn]; exact ha)
        rw [hv j hn'] at this
        exact this
      · cases hd
    · cases hd
theorem Hold.tbl {c : Cn} {T : Fx} {O : Addr → Prop} {G H : Hp} {σ : St} {ρ : Ev} {P : Addr} {ps ps' : Array Value} (h : Hold c T O G σ H ρ) (hP : H P = some (.tbl ps)) (hp : TriplesOk ps'.toList) :
    Hold c T O G σ (upd H P (.tbl ps')) ρ ∧ Tr O G H G (upd H P (.tbl ps')) := by
  refine ⟨⟨fun a o e => ?_, h.ntb, fun a ho e => ?_, fun p hpp => ?_, h.lnt, h.len, fun i sl hi => ?_, h.apart⟩, ⟨fun a o e => e, fun a o e _ ht => ?_, fun a o e => .inl e, fun a e => ?_, fun a qs e => ?_⟩⟩
  · rw [upd_ne (fun z => by rw [z] at e; rw [h.sub P o e] at hP; cases hP; exact h.ntb P ps e)]
    exact h.sub a o e
  · by_cases z : a = P
    · rw [z, upd_same] at e; cases e
    · rw [upd_ne z] at e; exact h.oin a ho e
  · by_cases z : p = P
    · exact ⟨ps', by rw [z]; exact upd_same, hp⟩
    · obtain ⟨qs, e, q⟩ := h.tab p hpp
      exact ⟨qs, by rw [upd_ne z]; exact e, q⟩
  · obtain ⟨v, e, q⟩ := h.slot i sl hi
    refine ⟨v, e, ?_⟩
    cases sl with
    | val d => exact q
    | own o =>
      obtain ⟨a, rfl, ho, hg, q⟩ := q
      obtain ⟨u, hu, ht, _⟩ := q.there
      exact ⟨a, rfl, ho, hg, q.mono (fun _ _ h => h) (upd_ne fun z => by rw [z, hP] at hu; cases hu; exact ht ps rfl)⟩
  · rw [upd_ne (fun z => by rw [z, hP] at e; cases e; exact ht ps rfl)]
    exact e
  · by_cases z : a = P
    · rw [z, upd_same] at e; cases e
    · rw [upd_ne z] at e; exact e
  · by_cases z : a = P
    · exact ⟨ps', by rw [z]; exact upd_same⟩
    · exact ⟨qs, by rw [upd_ne z]; exact e⟩

def sAny (isAll : Bool) (vs : List Nat) (dc : DCl) (dcs : List DCl) (elt : M Sl) : M Sl := fun ρ => (dc.it ρ).bind fun items ρ1 =>
  match anyItems dc.tg dc.cond (anyGo (!isAll) elt dcs) items (wipeE ρ1 vs) with
  | .ok st ρ2 => .ok (.val (.bool (if isAll = true then !st else st))) (restoreE ρ1 ρ2 vs)
  | _ => .bad
/-- the facts of a generator expression's block -/
structure GcOk (X : Cx) (T : Fx) (W : WX) (elt tg iter : Expr) (ifs : List Expr) (cls : List Comprehension) (scope : Scope) (own : List (Str × Nat)) (dc : DCl) (dcs : List DCl) (f : M Sl) : Prop where
  hc : X.calm = true
  hN : X.N.Nodup
  hr : ∃ k, Room k X.A
  hi : PI X tg iter (dI (cnOf X) T W dc.it)
  ok : GBlk X.N X.env.scope scope own
  hok : ∀ (s : Shared) (H : Hp) (cl : List (Str × Addr)) (C : Addr) (code : Value) (fp : List Addr) (pn : List (Addr × Obj)), ClOk (genX X X.A.in1.in1 s H (genEnv scope cl C code builtinsNs X.env) fp pn) T W0 ⟨tg, iter, ifs, 0⟩ dc
  hin : ∀ (s : Shared) (H : Hp) (cl : List (Str × Addr)) (C : Addr) (code : Value) (fp : List Addr) (pn : List (Addr × Obj)), ClIns (genX X X.A.in1.in1 s H (genEnv scope cl C code builtinsNs X.env) fp pn) T W0 cls dcs
  he : ∀ (s : Shared) (H : Hp) (cl : List (Str × Addr)) (C : Addr) (code : Value) (fp : List Addr) (pn : List (Addr × Obj)), PE (genX X X.A.in1.in1 s H (genEnv scope cl C code builtinsNs X.env) fp pn) elt (dT (cnOf X) T W0 f)
  hs : ∀ x, genFold iter X.env x = pure x
  nd : (dc.tg.slots ++ allSlots dcs).Nodup
  hsub : ∀ i ∈ dc.tg.slots ++ allSlots dcs, i ∈ own.map (fun x : Str × Nat => x.2)
  hL : ∀ p ∈ T.L, p.1 ∉ own.map (fun x : Str × Nat => x.2)
  tb : ∃ c P, TabB X.base X.mg c P ∧ X.env.code = .ref c ∧ P ∈ T.tabs

section
variable {X : Cx} {T : Fx} {W : WX} {elt tg iter : Expr} {ifs : List Expr} {cls : List Comprehension} {scope : Scope} {own : List (Str × Nat)} {dc : DCl} {dcs : List DCl} {f : M Sl} {gpos : Pos}
/-- the generator is made; then whatever runs it -/
theorem gen_core {pins : List (Addr × Obj)} {s : Shared} {σ : St} {H : Hp} {Q : VK} {stop : Bool} {fin : Bool → Bool} {Q' : Value → Shared → Prop} (K : GcOk X T W elt tg iter ifs cls scope own dc dcs f)
    (I : Inv X pins σ H s)
    (h : dT (cnOf X) T W (fun ρ => (dc.it ρ).bind fun items ρ1 =>
      match anyItems dc.tg dc.cond (anyGo stop f dcs) items (wipeE ρ1 (own.map (fun x : Str × Nat => x.2))) with
      | .ok st ρ2 => .ok (.val (.bool (fin st))) (restoreE ρ1 ρ2 (own.map (fun x : Str × Nat => x.2)))
      | _ => .bad) σ H Q)
    (run : ∀ (a : Addr) (g : Nat) (s5 : Shared) (Stp Fin : Shared → Prop), s5.heap.IsGen a g → s5.heap.NoLimit → AllBare s5.gens →
      (∃ n gs, s5.gens[g]? = some gs ∧ ∀ s', Woke s5 s' → gs.Goes (model X.prog X.w) X.A.in1.in1 (GR' Fin) (GY' stop a g Stp) n (.send .none) s') →
      (∀ s1, Fin s1 → ∀ h', (∀ b o, s1.heap.get? b = some o → h'.get? b = some o) → EP X pins σ Q (.bool (fin false)) { s1.setGen g .finished with heap := h' }) →
      (∀ (s1 : Shared) (gs' : GenState), gs'.bare = true → AllBare s1.gens → Stp s1 → EP X pins σ Q (.bool (fin true)) (s1.setGen g gs')) → Q' (.ref a) s5) :
    wpAny (model X.prog X.w) X.A (eval (.GeneratorExp elt (⟨tg, iter, ifs, 0⟩ :: cls) scope gpos) X.env) Q' X.xe s := by
  obtain ⟨O, G, ρ, hold, h⟩ := h
  dsimp only at h
  obtain ⟨kr, hr⟩ := K.hr
  obtain ⟨c, P, TB, hcode, hPT⟩ := K.tb
  have S := K.ok
  have hfree : ∀ y ∈ scope.names, y.2 = .free → ∃ c, X.env.cells.lookup y.1 = some c := fun y hy e => by
    rcases S.free y hy e with k | k
    · exact I.ok.has _ (.inl k)
    · exact I.ok.has _ (.inr k)
  rw [eval_GenN _ _ _ _ _ _ _ _ S.co, closure_ok hfree]
  cases q1 : dc.it ρ with
  | bad => rw [q1] at h; exact h.elim
  | exc x ρx =>
    rw [q1] at h
    refine wpAny_bind (thn (K.hi.run pins s σ H (fun _ _ => False) I ⟨O, G, ρ, hold, by rw [q1]; exact h⟩) fun xv s1 hx => ?_)
    refine wpAny_bind (wpAny_standAt (wpAny_bind (wpAny_of_eq (K.hs xv) (wpAny_bind (wpAny_holding (thn hx fun itv s2 h2 => ?_))))))
    obtain ⟨_, _, _, _, _, _, _, _, _, _, z⟩ := h2
    exact z.elim
  | ok items ρ1 =>
  rw [q1] at h
  simp only [Res.bind_ok] at h
  cases q2 : anyItems dc.tg dc.cond (anyGo stop f dcs) items (wipeE ρ1 (own.map (fun x : Str × Nat => x.2))) with
  | bad => rw [q2] at h; exact h.elim
  | exc x ρx => rw [q2] at h; exact h.elim
  | ok st ρ2 =>
  rw [q2] at h
  simp only at h
  refine wpAny_bind (thn (K.hi.run pins s σ H (fun J H1 => ∃ G1, Tr O G H G1 H1 ∧ Hold (cnOf X) T O G1 σ H1 ρ1 ∧ IterOk (cnOf X) J G1 items) I ⟨O, G, ρ, hold, by rw [q1]; exact fun J G1 H1 t1 h1 i1 => ⟨G1, t1, h1, i1⟩⟩) fun xv s1 hx => ?_)
  refine wpAny_bind (wpAny_standAt (wpAny_bind (wpAny_of_eq (K.hs xv) (wpAny_bind (wpAny_holding (thn hx fun itv s2 h2 => ?_))))))
  obtain ⟨it, fp, tn, J, H2, e2, I2, Tn, st2, f2, G1, tr1, hold1, io1⟩ := h2
  subst e2
  refine wpAny_bind (wpAny_enterFrame I2.nolimit hr.depth ?_)
  refine wpAny_bind (wpAny_pure ?_)
  obtain ⟨ps, hP, ht⟩ := hold1.tab P hPT
  have hPs : s2.heap.get? P = some { cls := .none, data := .fields ps } := I2.hok P _ hP
  have cd : PySem.W.CodeHd s2.heap c P := TB.code.keeps fun b u e => I2.bk b u e
  have hcP : cStatics ≠ P := fun e => by
    obtain ⟨_, hns, _⟩ := I2.nolimit
    obtain ⟨o', es, ep, ho, hd, _⟩ := hns
    rw [e, hPs] at ho
    cases ho
    cases hd
  -- behind the code's making
  have cont : ∀ (code : Value) (s4 : Shared) (H4 : Hp), Inv X pins σ H4 s4 → Hold (cnOf X) T O G1 σ H4 ρ1 → Tr O G1 H2 G1 H4 → (∀ b o, b ≠ P → s2.heap.get? b = some o → s4.heap.get? b = some o) → (∀ b, b ≠ P → H4 b = H2 b) →
      wpAny (model X.prog X.w) X.A (do
        let bi ← builtinsFor X.env.globals X.env.builtins
        let cenv ← newFunctionEnv scope X.env.globals (cloFrom X.env.cells scope.names []) [(".0", .ref it)] (X.env.qual ++ "<genexpr>.") none code none bi
        newGenerator (.compStart (.GeneratorExp elt (⟨tg, iter, ifs, 0⟩ :: cls) scope gpos) 0 (.ref it) .none cenv) "<genexpr>" (X.env.qual ++ "<genexpr>")) Q' X.xe s4 := by
    intro code s4 H4 I4 hold4 tr4 keep4 at4
    obtain ⟨bm, ob, e1, e2, e3, e4, e5, e6, e7, e8⟩ := TB.bm
    refine wpAny_bind (wpAny_builtinsFor (m := X.mg) (by rw [I4.ok.glob]; exact I4.mod.glob.keeps I4.bk) e1 e2 (I4.bk _ _ e5) e6 e7 e8 ?_)
    have hbinds : ∀ y ∈ ([((".0" : Str), Value.ref it)] : List (Str × Value)), scope.names.lookup y.1 = some NameKind.local := by
      intro y hy
      rcases List.mem_cons.mp hy with rfl | hy
      · exact S.dot
      · cases hy
    refine wpAny_bind (wpAny_newFunctionEnv S.cell hbinds (fun h' hn' hs' => ?_) S.kind)
    simp only [newGenerator, newFields]
    refine wpAny_bind (wpAny_newGen (wpAny_bind (wpAny_mkText (wpAny_bind (wpAny_mkText (wpAny_newObj_type ?_ (by size_fits)))))))
    have hsz : h'.objs.size = s4.heap.objs.size + 1 := by rw [hs'.1, Heap.size_push]
    have keep' : ∀ b o, s4.heap.get? b = some o → h'.get? b = some o := fun b o e => hs'.extBut b o (Nat.ne_of_lt (Heap.lt_size e)) (Heap.get?_push_of_some _ e)
    generalize hgo : ({ cls := .type "generator", data := .fields #[.int s4.gens.size 0, .str "<genexpr>" (s4.toks + 1), .str (X.env.qual ++ "<genexpr>") (s4.toks + 1 + 1)] } : Obj) = go
    have hgod : ∀ v, go.data ≠ .cell v := fun v z => by rw [← hgo] at z; cases z
    have hgen : ∀ h : Heap, h.get? h'.objs.size = some go → h.IsGen h'.objs.size s4.gens.size := fun h e => ⟨go, _, _, e, by rw [← hgo], by rw [← hgo], by rw [← hgo]⟩
    have hgop : (h'.push go).get? h'.objs.size = some go := Heap.get?_push_size _ (by rw [← hgo]; rfl)
    have keep5 : ∀ b o, s4.heap.get? b = some o → (h'.push go).get? b = some o := fun b o e => Heap.get?_push_of_some _ (keep' b o e)
    have hns5 : (h'.push go).Ns s4.heap.objs.size (fun x => ([((".0" : Str), Value.ref it)] : List (Str × Value)).reverse.lookup x) := hn'.push _
    have sz : ∀ b ∈ fp, b < s4.heap.objs.size := fun b hb => by
      obtain ⟨o, e, _⟩ := Tn.obj _ _ st2 b hb
      have hbP : b ≠ P := fun z => by
        have := (f2 b hb).1
        rw [z, hP] at this
        cases this
      exact Heap.lt_size (keep4 b o hbP e)
    have f4 : ∀ b ∈ fp, FpOk X pins H4 b ∧ b < s4.heap.objs.size := fun b hb => by
      have hbP : b ≠ P := fun z => by
        have := (f2 b hb).1
        rw [z, hP] at this
        cases this
      exact ⟨⟨by rw [at4 b hbP]; exact (f2 b hb).1, (f2 b hb).2⟩, sz b hb⟩
    have st5 : tn 0 (h'.push go) := Tn.keep _ _ _ st2 fun b hb o e => by
      have hbP : b ≠ P := fun z => by
        have := (f2 b hb).1
        rw [z, hP] at this
        cases this
      exact keep5 b o (keep4 b o hbP e)
    generalize hcenv : genEnv scope (cloFrom X.env.cells scope.names []) s4.heap.objs.size code builtinsNs X.env = cenv
    generalize hs5 : ({ s4 with gens := s4.gens.push (.fresh (.compStart (.GeneratorExp elt (⟨tg, iter, ifs, 0⟩ :: cls) scope gpos) 0 (.ref it) .none (newEnv scope s4.heap.objs.size X.env.globals (cloFrom X.env.cells scope.names []) (X.env.qual ++ "<genexpr>.") none code none builtinsNs))), heap := h'.push go, toks := s4.toks + 1 + 1 + 1 } : Shared) = s5
    have hne : newEnv scope s4.heap.objs.size X.env.globals (cloFrom X.env.cells scope.names []) (X.env.qual ++ "<genexpr>.") none code none builtinsNs = cenv := by rw [← hcenv]; rfl
    rw [hne] at hs5
    have h5h : s5.heap = h'.push go := by rw [← hs5]
    have h5g : s5.gens = s4.gens.push (.fresh (.compStart (.GeneratorExp elt (⟨tg, iter, ifs, 0⟩ :: cls) scope gpos) 0 (.ref it) .none cenv)) := by rw [← hs5]
    have h5o : s5.os = s4.os := by rw [← hs5]
    have b5 : AllBare s5.gens := by rw [h5g]; exact I4.bare.push rfl
    have goal : Q' (.ref h'.objs.size) s5 := by
      have okc := K.hok s4 H4 (cloFrom X.env.cells scope.names []) s4.heap.objs.size code fp [(h'.objs.size, go)]
      have inc := K.hin s4 H4 (cloFrom X.env.cells scope.names []) s4.heap.objs.size code fp [(h'.objs.size, go)]
      have hec := K.he s4 H4 (cloFrom X.env.cells scope.names []) s4.heap.objs.size code fp [(h'.objs.size, go)]
      rw [hcenv] at okc inc hec
      -- the block's start, whenever it is woken
      have begin_ : ∀ s', Woke s5 s' → Inv (genX X X.A.in1.in1 s4 H4 cenv fp [(h'.objs.size, go)]) [] (wipe σ (own.map (fun x : Str × Nat => x.2))) H4 s' := fun s' wk => by
        rw [← hcenv]
        refine gen_start I4 hr.hd (show X.A.in1.in1.frames = some X.stack from I4.ok.frames) S K.hN f4 (by rw [wk.heap, h5h]; exact hns5) (fun b o e => by rw [wk.heap, h5h]; exact keep5 b o e) (wk.os.trans h5o) wk.bare fun p hp => ?_
        rw [List.mem_singleton.mp hp]
        exact ⟨by rw [wk.heap, h5h]; exact hgop, by rw [hsz]; exact Nat.lt_succ_self _, hgod⟩
      have hXenv : (genX X X.A.in1.in1 s4 H4 cenv fp [(h'.objs.size, go)]).env = cenv := rfl
      obtain ⟨N, hN⟩ := segG_items (X := genX X X.A.in1.in1 s4 H4 cenv fp [(h'.objs.size, go)]) (T := T) (stop := stop) (gens := ⟨tg, iter, ifs, 0⟩ :: cls) (scope := scope) (pos := gpos) K.hc (fun _ _ z => z) (by show cenv.scope.isCoroutine = false; rw [← hcenv]; exact S.co) hec cls dcs ⟨tg, iter, ifs, 0⟩ dc 0 (fun j => by rw [Nat.zero_add])
        okc inc K.nd items.length items 0 (wipeE ρ1 (own.map (fun x : Str × Nat => x.2))) st ρ2 (Nat.sub_zero _) (Nat.zero_le _) (by simpa using q2)
      have hold4w : Hold (cnOf X) T O G1 (wipe σ (own.map (fun x : Str × Nat => x.2))) H4 (wipeE ρ1 (own.map (fun x : Str × Nat => x.2))) := hold4.wipeS _ K.hL
      -- back in the def
      have back : ∀ (pins'' : List (Addr × Obj)) (σ'' : St) (H'' G'' : Hp) (s1 s2' : Shared) (b : Bool), b = st → Inv (genX X X.A.in1.in1 s4 H4 cenv fp [(h'.objs.size, go)]) pins'' σ'' H'' s1 → Hold (cnOf X) T O G'' σ'' H'' ρ2 → Tr O G1 H4 G'' H'' → (∀ j : Nat, j ∉ own.map (fun x : Str × Nat => x.2) → σ''[j]? = σ[j]?) → σ''.length = σ.length →
          (∀ b o, s1.heap.get? b = some o → s2'.heap.get? b = some o) → s2'.os = s1.os → AllBare s2'.gens → EP X pins σ Q (.bool (fin b)) s2' := by
        intro pins'' σ'' H'' G'' s1 s2' b hb I6 hold6 tr6 hσ6 hl6 hk6 ho6 hb6
        subst hb
        have un6 : Un (frs X.stack) fp H4 H'' s4.heap s1.heap := I6.base
        have I7 : Inv X pins σ H'' s2' := I4.call' (ch := fp) (ho6.trans I6.os) (un6.trans (Un.kept hk6)) (I6.hok.kept hk6) hb6 fun b hb => ⟨(f4 b hb).1.2.2.2.1, (f4 b hb).1.2.1, (f4 b hb).1.2.2.2.2.1, (f4 b hb).1.2.2.2.2.2⟩
        exact ⟨.bl (fin b), H'', I7, rfl, h (.bl (fin b)) G'' H'' ((tr1.trans' tr4).trans' tr6) (hold4.restore' hold6 tr6.g hσ6 hl6) (.bl _)⟩
      refine run h'.objs.size s4.gens.size s5 (fun s1 => st = true ∧ ∃ pins'' σ'' H'' G'', Inv (genX X X.A.in1.in1 s4 H4 cenv fp [(h'.objs.size, go)]) pins'' σ'' H'' s1 ∧ Hold (cnOf X) T O G'' σ'' H'' ρ2 ∧ Tr O G1 H4 G'' H'' ∧ (∀ j : Nat, j ∉ own.map (fun x : Str × Nat => x.2) → σ''[j]? = σ[j]?) ∧ σ''.length = σ.length)
        (fun s1 => st = false ∧ GAt (genX X X.A.in1.in1 s4 H4 cenv fp [(h'.objs.size, go)]) T [] O G1 H4 (wipe σ (own.map (fun x : Str × Nat => x.2))) ρ2 s1)
        (hgen _ (by rw [h5h]; exact hgop)) ((begin_ s5 ⟨rfl, rfl, b5⟩).nolimit) b5 ⟨N, _, by rw [h5g]; exact Array.getElem?_push_size .., fun s' wk => ?_⟩ (fun s1 hf h'' hk => ?_) (fun s1 gs' hgb hb1 hs1 => ?_)
      · -- the generator runs
        refine ⟨rfl, ?_⟩
        have I6 := begin_ s' wk
        have st6 : tn 0 s'.heap := by rw [wk.heap, h5h]; exact st5
        have stat : ∀ b ∈ fp, FpOk (genX X X.A.in1.in1 s4 H4 cenv fp [(h'.objs.size, go)]) [] H4 b := fun b hb =>
          ⟨(f4 b hb).1.1, (I6.ok.exf b hb).1, I6.ok.exfs b hb, .inl hb, fun x c e => (I6.ok.exf b hb).2 x c e, fun p hp => by
            have hp : p ∈ [(h'.objs.size, go)] ++ [] := hp
            rw [List.append_nil] at hp
            rw [List.mem_singleton.mp hp]
            have := (f4 b hb).2
            show h'.objs.size ≠ b
            rw [hsz]
            exact Nat.ne_of_gt (Nat.lt_succ_of_lt this)⟩
        have loop := hN 0 N s' [] X.A.in1.in1 (GR' fun s1 => st = false ∧ GAt (genX X X.A.in1.in1 s4 H4 cenv fp [(h'.objs.size, go)]) T [] O G1 H4 (wipe σ (own.map (fun x : Str × Nat => x.2))) ρ2 s1)
          (GY' stop h'.objs.size s4.gens.size fun s1 => st = true ∧ ∃ pins'' σ'' H'' G'', Inv (genX X X.A.in1.in1 s4 H4 cenv fp [(h'.objs.size, go)]) pins'' σ'' H'' s1 ∧ Hold (cnOf X) T O G'' σ'' H'' ρ2 ∧ Tr O G1 H4 G'' H'' ∧ (∀ j : Nat, j ∉ own.map (fun x : Str × Nat => x.2) → σ''[j]? = σ[j]?) ∧ σ''.length = σ.length)
          [] s' (wipe σ (own.map (fun x : Str × Nat => x.2))) H4 O G1 it fp tn J (Nat.le_refl _) over_gen rfl rfl I6 hold4w Tn st6 stat io1 (fun i hi v e => (wipe_some e).2 (K.hsub i hi))
          (fun m s₀ s6 kap pins6 σ6 H6 b I7 hb hk => ⟨b, rfl, I7.bare, I7.nolimit, hgen _ (I7.pin (h'.objs.size, go) (List.mem_append_left _ (List.mem_singleton.mpr rfl))).1, fun z => by rw [hb] at z; exact absurd z Bool.false_ne_true, fun _ s'' w => hk s'' w⟩)
          (fun e n' s₀' s6 _ ga => seg_end (.ok .next) ⟨rfl, e, ga⟩)
          (fun e m s₀' s6 kap pins6 σ6 H6 G6 bb hbb I7 hold7 tr7 h1 h2 => ⟨bb, rfl, I7.bare, I7.nolimit, hgen _ (I7.pin (h'.objs.size, go) (List.mem_append_left _ (List.mem_singleton.mpr rfl))).1,
            fun _ => ⟨e, pins6, σ6, H6, G6, I7, hold7, tr7, fun j hj => (h1 j fun z => hj (K.hsub j z)).trans (wipe_out hj), h2.trans (wipe_length _ _)⟩, fun z => by rw [hbb] at z; exact absurd z.symm Bool.false_ne_true⟩)
        exact segG_start (k := 0) (t := tg) (i := iter) (ifs := ifs) rfl loop (by
          rw [over_genS]
          exact Tn.self _ _ _ _ _ st6 loop)
      · obtain ⟨e, H6, G6, I6, hold6, tr6⟩ := hf
        exact back [] _ H6 G6 s1 _ false e.symm I6 hold6 tr6 (fun j hj => wipe_out hj) (wipe_length _ _) hk rfl (allBare_setGen I6.bare rfl)
      · obtain ⟨e, pins6, σ6, H6, G6, I6, hold6, tr6, hs6, hl6⟩ := hs1
        exact back pins6 σ6 H6 G6 s1 _ true e.symm I6 hold6 tr6 hs6 hl6 (fun _ _ z => z) rfl (allBare_setGen hb1 hgb)
    subst hs5; subst hcenv; subst hgo
    exact goal
  cases hf : codeAmong gpos ps.toList with
  | none =>
    refine wpAny_bind (wpAny_genexprCodeX hcode (cd.code hPs ht) (cd.tab hPs) hf fun c' h3 tk hx hge hlt hco' _ htab' _ => ?_)
    obtain ⟨o1, vs, f1, tf, fl, tg', inF, tx, tt, op, _, _, _, _, _, _, _, _, _, htr, _⟩ := hco'
    obtain ⟨hold4, tr4⟩ := hold1.tbl hP htr
    refine cont (.ref c') { s2 with heap := h3, toks := tk } _ (inv_tab (more := #[rawInt gpos.line, rawInt gpos.col, .ref c']) (g' := s2.gens) (d' := s2.drawn) I2 hP hx htab'.2 I2.bare) hold4 tr4 hx fun b hb => upd_ne hb
  | some cv =>
    refine wpAny_bind (wpAny_genexprCode_hit hcode (cd.code hPs ht) hf ?_)
    exact cont cv s2 H2 I2 hold1 .refl (fun _ _ _ e => e) fun _ _ => rfl
theorem pe_allN {p pos : Pos} (K : GcOk X T W elt tg iter ifs cls scope own dc dcs f) (hg : Gl X "all") (hm : X.mg "all" = none) :
    PE X (.Call (.Name "all" p) [.GeneratorExp elt (⟨tg, iter, ifs, 0⟩ :: cls) scope gpos] [] pos) (dT (cnOf X) T W (sAny true (own.map (fun x : Str × Nat => x.2)) dc dcs f)) := by
  refine ⟨fun pins s σ H Q I h => ?_⟩
  obtain ⟨kr, hr⟩ := K.hr
  have he : starEach [.GeneratorExp elt (⟨tg, iter, ifs, 0⟩ :: cls) scope gpos] X.env = (false, eval (.GeneratorExp elt (⟨tg, iter, ifs, 0⟩ :: cls) scope gpos) X.env) :: starEach [] X.env := rfl
  refine wpAny_Call_Name_kw (ld_blt I hg hm (show bootBuiltins "all" = some (.builtin "all") by decide +kernel) ?_)
  refine PyProof.Rows.callWith_builtin1 ?_ he (by rfl)
  rw [he]
  show wpAny _ _ (spliced ((false, eval (.GeneratorExp elt (⟨tg, iter, ifs, 0⟩ :: cls) scope gpos) X.env) :: backTo pos (starEach [] X.env))) _ _ s
  refine Calls.spliced_cons (gen_core (stop := false) (fin := fun st => !st) K I h fun a g s5 Stp Fin hg5 hl5 hb5 hgo hfin hstp => ?_)
  obtain ⟨n, hgo⟩ := hgo
  refine Calls.spliced_nil ?_
  refine call_function_tree F.kind_all F.plain_all F.entry_all (F.args_all1 _) ?_
  unfold Builtin.«all»
  refine wpAny_bind (m := oneArg "all" _) (wpAny_pure ?_)
  refine wpAny_bind (wpAny_pyIter_gen hg5 ?_)
  exact wpAny_pure ⟨plainId_quiet F.plain_all_loop _, consume_all (A := X.A) hr.hd hr.depth (fun s1 hf h' hk => hfin s1 hf h' hk) (fun s1 gs' h1 h2 h3 => hstp s1 gs' h1 h2 h3) n s5 hg5 hl5 hb5 hgo⟩
theorem pe_anyN {p pos : Pos} (K : GcOk X T W elt tg iter ifs cls scope own dc dcs f) (hg : Gl X "any") (hm : X.mg "any" = none) :
    PE X (.Call (.Name "any" p) [.GeneratorExp elt (⟨tg, iter, ifs, 0⟩ :: cls) scope gpos] [] pos) (dT (cnOf X) T W (sAny false (own.map (fun x : Str × Nat => x.2)) dc dcs f)) := by
  refine ⟨fun pins s σ H Q I h => ?_⟩
  obtain ⟨kr, hr⟩ := K.hr
  have he : starEach [.GeneratorExp elt (⟨tg, iter, ifs, 0⟩ :: cls) scope gpos] X.env = (false, eval (.GeneratorExp elt (⟨tg, iter, ifs, 0⟩ :: cls) scope gpos) X.env) :: starEach [] X.env := rfl
  refine wpAny_Call_Name_kw (ld_blt I hg hm (show bootBuiltins "any" = some (.builtin "any") by decide +kernel) ?_)
  refine PyProof.Rows.callWith_builtin1 ?_ he (by rfl)
  rw [he]
  show wpAny _ _ (spliced ((false, eval (.GeneratorExp elt (⟨tg, iter, ifs, 0⟩ :: cls) scope gpos) X.env) :: backTo pos (starEach [] X.env))) _ _ s
  refine Calls.spliced_cons (gen_core (stop := true) (fin := fun st => st) K I h fun a g s5 Stp Fin hg5 hl5 hb5 hgo hfin hstp => ?_)
  obtain ⟨n, hgo⟩ := hgo
  refine Calls.spliced_nil ?_
  refine call_function_tree F.kind_any F.plain_any F.entry_any (F.args_any1 _) ?_
  unfold Builtin.«any»
  refine wpAny_bind (m := oneArg "any" _) (wpAny_pure ?_)
  refine wpAny_bind (wpAny_pyIter_gen hg5 ?_)
  exact wpAny_pure ⟨plainId_quiet F.plain_any_loop _, consume_any (A := X.A) hr.hd hr.depth (fun s1 hf h' hk => hfin s1 hf h' hk) (fun s1 gs' h1 h2 h3 => hstp s1 gs' h1 h2 h3) n s5 hg5 hl5 hb5 hgo⟩
end
end Sd
set_option Elab.async false
set_option linter.all false
set_option maxRecDepth 100000
set_option maxHeartbeats 4000000
set_option autoImplicit false
/-! Sd: expressions by parts. -/
namespace Sd
open PySem PySem.Spec PyProof.Rows L2

section
variable (c : Cn) (T : Fx) (W : WX) (O : Addr → Prop) (G : Hp) (σ : St) (H : Hp)
def Wt (x : Res Sl) (Q : VK) : Prop := match x with
  | .ok r ρ' => ∀ v G' H', Tr O G H G' H' → Hold c T O G' σ H' ρ' → RepR c H G' H' v r → Q v H'
  | .exc e ρ' => ∀ G' H', Tr O G H G' H' → Hold c T O G' σ H' ρ' → W e σ H'
  | .bad => False
def WtB (x : Res Bool) (Q : Bool → Hp → Prop) : Prop := match x with
  | .ok r ρ' => ∀ G' H', Tr O G H G' H' → Hold c T O G' σ H' ρ' → Q r H'
  | .exc e ρ' => ∀ G' H', Tr O G H G' H' → Hold c T O G' σ H' ρ' → W e σ H'
  | .bad => False
def WtA (x : Res (List D)) (Q : List V → Hp → Prop) : Prop := match x with
  | .ok ds ρ' => ∀ vs G' H', Tr O G H G' H' → Hold c T O G' σ H' ρ' → Reps c G' vs ds → Q vs H'
  | .exc e ρ' => ∀ G' H', Tr O G H G' H' → Hold c T O G' σ H' ρ' → W e σ H'
  | .bad => False
def WtI (x : Res (List D)) (R : It → Hp → Prop) : Prop := match x with
  | .ok items ρ' => ∀ J G' H', Tr O G H G' H' → Hold c T O G' σ H' ρ' → IterOk c J G' items → R J H'
  | .exc e ρ' => ∀ G' H', Tr O G H G' H' → Hold c T O G' σ H' ρ' → W e σ H'
  | .bad => False
end
theorem RepR.back {c : Cn} {H0 H1 G H : Hp} {v : V} {r : Sl} (h : RepR c H1 G H v r) (d : ∀ a, H1 a = none → H0 a = none) : RepR c H0 G H v r := by
  cases r with
  | val d => exact h
  | own o => obtain ⟨a, rfl, h1, h2⟩ := h; exact ⟨a, rfl, d a h1, h2⟩
section
variable {c : Cn} {T : Fx} {W : WX} {O : Addr → Prop} {G H G1 H1 : Hp} {σ : St} {ρ : Ev}
theorem Wt.later {x : Res Sl} {Q : VK} (t : Tr O G H G1 H1) (h : Wt c T W O G σ H x Q) : Wt c T W O G1 σ H1 x Q := by
  cases x with
  | ok r ρ' => exact fun v G' H' t' hd rr => h v G' H' (t.trans' t') hd (rr.back t.d)
  | exc e ρ' => exact fun G' H' t' hd => h G' H' (t.trans' t') hd
  | bad => exact h
theorem WtB.later {x : Res Bool} {Q : Bool → Hp → Prop} (t : Tr O G H G1 H1) (h : WtB c T W O G σ H x Q) : WtB c T W O G1 σ H1 x Q := by
  cases x with
  | ok r ρ' => exact fun G' H' t' hd => h G' H' (t.trans' t') hd
  | exc e ρ' => exact fun G' H' t' hd => h G' H' (t.trans' t') hd
  | bad => exact h
theorem WtA.later {x : Res (List D)} {Q : List V → Hp → Prop} (t : Tr O G H G1 H1) (h : WtA c T W O G σ H x Q) : WtA c T W O G1 σ H1 x Q := by
  cases x with
  | ok r ρ' => exact fun vs G' H' t' hd rr => h vs G' H' (t.trans' t') hd rr
  | exc e ρ' => exact fun G' H' t' hd => h G' H' (t.trans' t') hd
  | bad => exact h
theorem WtI.later {x : Res (List D)} {Q : It → Hp → Prop} (t : Tr O G H G1 H1) (h : WtI c T W O G σ H x Q) : WtI c T W O G1 σ H1 x Q := by
  cases x with
  | ok r ρ' => exact fun J G' H' t' hd rr => h J G' H' (t.trans' t') hd rr
  | exc e ρ' => exact fun G' H' t' hd => h G' H' (t.trans' t') hd
  | bad => exact h
end

/-! ### semantics -/
def sVar (i : Nat) : M Sl := fun ρ => match ρ[i]? with
  | some (some (.val d)) => .ok (.val d) ρ
  | some (some (.own o)) => .ok (.val o.frz) (ρ.set i (some (.val o.frz)))
  | _ => .bad
def sC (d : D) : M Sl := fun ρ => .ok (.val d) ρ
def sIf (b : M Bool) (f g : M Sl) : M Sl := fun ρ => (b ρ).bind fun x ρ' => if x = true then f ρ' else g ρ'
/-- values of bools: and, or, not -/
def boolD : Sl → Option Bool
  | .val (.bool b) => some b
  | _ => none
def sAnd (f g : M Sl) : M Sl := fun ρ => (f ρ).bind fun r ρ' => match boolD r with
  | some b => if b = true then g ρ' else .ok (.val (.bool false)) ρ'
  | none => .bad
def sOr (f g : M Sl) : M Sl := fun ρ => (f ρ).bind fun r ρ' => match boolD r with
  | some b => if b = true then .ok (.val (.bool true)) ρ' else g ρ'
  | none => .bad
def sNot (f : M Sl) : M Sl := fun ρ => (f ρ).bind fun r ρ' => match boolD r with
  | some b => .ok (.val (.bool (!b))) ρ'
  | none => .bad
def bAnd (f g : M Bool) : M Bool := fun ρ => (f ρ).bind fun x ρ' => if x = true then g ρ' else .ok false ρ'
def bOr (f g : M Bool) : M Bool := fun ρ => (f ρ).bind fun x ρ' => if x = true then .ok true ρ' else g ρ'
def bNot (f : M Bool) : M Bool := fun ρ => (f ρ).bind fun x ρ' => .ok (!x) ρ'
/-- the test of a value -/
def truD : D → Option Bool
  | .none => some false
  | .bool b => some b
  | .int i => some (i != 0)
  | .str x => if x.length ≤ sizeLine then some ((x.length : Int) != 0) else none
  | .list xs => some !xs.isEmpty
  | .tuple xs => some !xs.isEmpty
  | _ => none
def bTru (A : Opd) : M Bool := bN (fun | [d] => truD d | _ => none) [A]
def bVal (f : M Sl) : M Bool := fun ρ => (f ρ).bind fun r ρ' => match boolD r with
  | some b => .ok b ρ'
  | none => .bad
def aN : M (List D) := fun ρ => .ok [] ρ
def aC (f : M Sl) (as : M (List D)) : M (List D) := fun ρ => (f ρ).bind fun r ρ1 => (as ρ1).bind fun ds ρ2 => .ok (r.frz :: ds) ρ2
def seqD : D → Option (List D)
  | .list xs => some xs
  | .tuple xs => some xs
  | _ => none
def aS (f : M Sl) (as : M (List D)) : M (List D) := fun ρ => (f ρ).bind fun r ρ1 => match seqD r.frz with
  | some xs => (as ρ1).bind fun ds ρ2 => .ok (xs ++ ds) ρ2
  | none => .bad
def sTup (as : M (List D)) : M Sl := fun ρ => (as ρ).bind fun ds ρ' => if ds.length ≤ sizeLine then .ok (.val (.tuple ds)) ρ' else .bad
def sLst (as : M (List D)) : M Sl := fun ρ => (as ρ).bind fun ds ρ' => if ds.length ≤ sizeLine then .ok (.own (.lst ds)) ρ' else .bad

section
variable {X : Cx} {T : Fx} {W : WX} {e a b : Expr} {es rest : List Expr} {pos : Pos} {f g : M Sl} {t u : M Bool} {as : M (List D)} {i : Nat}
theorem pe_varD (h : PE X e (tVar i)) : PE X e (dT (cnOf X) T W (sVar i)) := impPE h fun σ H Q h => by
  obtain ⟨O, G, ρ, hold, h⟩ := h
  unfold sVar at h
  cases q : ρ[i]? with
  | none => rw [q] at h; exact h.elim
  | some o =>
  cases o with
  | none => rw [q] at h; exact h.elim
  | some s =>
  rw [q] at h
  cases s with
  | val d =>
    obtain ⟨v, e1, r⟩ := hold.at_val q
    exact ⟨v, e1, h v G H .refl hold r⟩
  | own o =>
    obtain ⟨p, G', e1, tr, hold', r⟩ := hold.freezeS q
    exact ⟨_, e1, h (.ref p) G' H tr hold' r⟩
theorem pe_cD {v : V} {d : D} (h : PE X e (tC v)) (r : ∀ G, Rep (cnOf X) G v d) : PE X e (dT (cnOf X) T W (sC d)) := impPE h fun σ H Q h => by
  obtain ⟨O, G, ρ, hold, h⟩ := h
  exact h v G H .refl hold (r G)
theorem pe_ifD (hc : PT X e (dB (cnOf X) T W t)) (ha : PE X a (dT (cnOf X) T W f)) (hb : PE X b (dT (cnOf X) T W g)) : PE X (.IfExp e a b pos) (dT (cnOf X) T W (sIf t f g)) :=
  impPE (pe_ifExp hc ha hb) fun σ H Q h => by
    obtain ⟨O, G, ρ, hold, h⟩ := h
    refine ⟨O, G, ρ, hold, ?_⟩
    unfold sIf at h
    cases q : t ρ with
    | bad => rw [q] at h; exact h
    | exc x ρ' => rw [q] at h; exact h
    | ok x ρ' =>
      rw [q] at h
      intro G1 H1 t1 hold1
      have h' := Wt.later t1 h
      cases x with
      | true => exact ⟨O, G1, ρ', hold1, h'⟩
      | false => exact ⟨O, G1, ρ', hold1, h'⟩
theorem Rep.bool_inv {c : Cn} {G : Hp} {v : V} {b : Bool} (h : Rep c G v (.bool b)) : v = .bl b := by cases h; rfl
theorem boolD_some {r : Sl} {b : Bool} (h : boolD r = some b) : r = .val (.bool b) := by
  unfold boolD at h
  split at h
  · cases h; rfl
  · cases h
theorem pe_andD (ha : PE X a (dT (cnOf X) T W f)) (hb : PE X (.BoolOp .And (b :: rest) pos) (dT (cnOf X) T W g)) : PE X (.BoolOp .And (a :: b :: rest) pos) (dT (cnOf X) T W (sAnd f g)) :=
  impPE (pe_and ha hb) fun σ H Q h => by
    obtain ⟨O, G, ρ, hold, h⟩ := h
    refine ⟨O, G, ρ, hold, ?_⟩
    unfold sAnd at h
    cases q : f ρ with
    | bad => rw [q] at h; exact h
    | exc x ρ' => rw [q] at h; exact h
    | ok r ρ' =>
      rw [q] at h
      dsimp only [Res.bind] at h
      cases q2 : boolD r with
      | none => rw [q2] at h; exact h.elim
      | some x =>
      rw [q2] at h
      intro v G1 H1 t1 hold1 rr
      have h' := Wt.later t1 h
      rw [boolD_some q2] at rr
      cases x with
      | true => exact ⟨true, rr.bool_inv, O, G1, ρ', hold1, h'⟩
      | false => exact ⟨false, rr.bool_inv, h' _ G1 H1 .refl hold1 (.bl false)⟩
theorem pe_orD (ha : PE X a (dT (cnOf X) T W f)) (hb : PE X (.BoolOp .Or (b :: rest) pos) (dT (cnOf X) T W g)) : PE X (.BoolOp .Or (a :: b :: rest) pos) (dT (cnOf X) T W (sOr f g)) :=
  impPE (pe_or ha hb) fun σ H Q h => by
    obtain ⟨O, G, ρ, hold, h⟩ := h
    refine ⟨O, G, ρ, hold, ?_⟩
    unfold sOr at h
    cases q : f ρ with
    | bad => rw [q] at h; exact h
    | exc x ρ' => rw [q] at h; exact h
    | ok r ρ' =>
      rw [q] at h
      dsimp only [Res.bind] at h
      cases q2 : boolD r with
      | none => rw [q2] at h; exact h.elim
      | some x =>
      rw [q2] at h
      intro v G1 H1 t1 hold1 rr
      have h' := Wt.later t1 h
      rw [boolD_some q2] at rr
      cases x with
      | true => exact ⟨true, rr.bool_inv, h' _ G1 H1 .refl hold1 (.bl true)⟩
      | false => exact ⟨false, rr.bool_inv, O, G1, ρ', hold1, h'⟩
theorem pe_notD (ha : PE X a (dT (cnOf X) T W f)) : PE X (.UnaryOp .Not a pos) (dT (cnOf X) T W (sNot f)) :=
  impPE (pe_not ha) fun σ H Q h => by
    obtain ⟨O, G, ρ, hold, h⟩ := h
    refine ⟨O, G, ρ, hold, ?_⟩
    unfold sNot at h
    cases q : f ρ with
    | bad => rw [q] at h; exact h
    | exc x ρ' => rw [q] at h; exact h
    | ok r ρ' =>
      rw [q] at h
      dsimp only [Res.bind] at h
      cases q2 : boolD r with
      | none => rw [q2] at h; exact h.elim
      | some x =>
      rw [q2] at h
      intro v G1 H1 t1 hold1 rr
      rw [boolD_some q2] at rr
      exact ⟨x, rr.bool_inv, h _ G1 H1 t1 hold1 (.bl _)⟩
/-! tests -/
theorem pw_and1D (ha : PT X a (dB (cnOf X) T W t)) : PW X (.BoolOp .And [a] pos) (dB (cnOf X) T W t) := pw_and1 ha
theorem pw_or1D (ha : PT X a (dB (cnOf X) T W t)) : PW X (.BoolOp .Or [a] pos) (dB (cnOf X) T W t) := pw_or1 ha
theorem pw_andD (ha : PT X a (dB (cnOf X) T W t)) (hb : PW X (.BoolOp .And (b :: rest) pos) (dB (cnOf X) T W u)) : PW X (.BoolOp .And (a :: b :: rest) pos) (dB (cnOf X) T W (bAnd t u)) :=
  impPW (pw_and ha hb) fun σ H Q h => by
    obtain ⟨O, G, ρ, hold, h⟩ := h
    refine ⟨O, G, ρ, hold, ?_⟩
    unfold bAnd at h
    cases q : t ρ with
    | bad => rw [q] at h; exact h
    | exc x ρ' => rw [q] at h; exact h
    | ok x ρ' =>
      rw [q] at h
      intro G1 H1 t1 hold1
      have h' := WtB.later t1 h
      cases x with
      | true => exact ⟨O, G1, ρ', hold1, h'⟩
      | false => exact h' G1 H1 .refl hold1
theorem pw_orD (ha : PT X a (dB (cnOf X) T W t)) (hb : PW X (.BoolOp .Or (b :: rest) pos) (dB (cnOf X) T W u)) : PW X (.BoolOp .Or (a :: b :: rest) pos) (dB (cnOf X) T W (bOr t u)) :=
  impPW (pw_or ha hb) fun σ H Q h => by
    obtain ⟨O, G, ρ, hold, h⟩ := h
    refine ⟨O, G, ρ, hold, ?_⟩
    unfold bOr at h
    cases q : t ρ with
    | bad => rw [q] at h; exact h
    | exc x ρ' => rw [q] at h; exact h
    | ok x ρ' =>
      rw [q] at h
      intro G1 H1 t1 hold1
      have h' := WtB.later t1 h
      cases x with
      | true => exact h' G1 H1 .refl hold1
      | false => exact ⟨O, G1, ρ', hold1, h'⟩
theorem pt_notD (ha : PT X a (dB (cnOf X) T W t)) : PT X (.UnaryOp .Not a pos) (dB (cnOf X) T W (bNot t)) :=
  impPT (pt_not ha) fun σ H Q h => by
    obtain ⟨O, G, ρ, hold, h⟩ := h
    refine ⟨O, G, ρ, hold, ?_⟩
    unfold bNot at h
    cases q : t ρ with
    | bad => rw [q] at h; exact h
    | exc x ρ' => rw [q] at h; exact h
    | ok x ρ' =>
      rw [q] at h
      exact fun G1 H1 t1 hold1 => h G1 H1 t1 hold1
/-- an expression whose value is a bool, as a test -/
theorem imp_val {σ : St} {H : Hp} {Q : Bool → Hp → Prop} (h : dB (cnOf X) T W (bVal f) σ H Q) : dT (cnOf X) T W f σ H fun x H1 => ∃ c, x = .bl c ∧ Q c H1 := by
  obtain ⟨O, G, ρ, hold, h⟩ := h
  refine ⟨O, G, ρ, hold, ?_⟩
  unfold bVal at h
  cases q : f ρ with
  | bad => rw [q] at h; exact h
  | exc x ρ' => rw [q] at h; exact h
  | ok r ρ' =>
    rw [q] at h
    dsimp only [Res.bind] at h
    cases q2 : boolD r with
    | none => rw [q2] at h; exact h.elim
    | some x =>
    rw [q2] at h
    intro v G1 H1 t1 hold1 rr
    rw [boolD_some q2] at rr
    exact ⟨x, rr.bool_inv, h G1 H1 t1 hold1⟩
theorem pt_valD (h : PE X e (dT (cnOf X) T W f)) (he : ∀ whole, isTrue e X.env whole = (do let v ← whole; standAt e.pos; holding [v] (truthy v)) := by intro _; rfl) : PT X e (dB (cnOf X) T W (bVal f)) :=
  impPT (pt_val h he) fun _ _ _ h => imp_val h
theorem opd1B {c : Cn} {σ : St} {H : Hp} {A : Opd} {p : D → Option Bool} {Q : Bool → Hp → Prop} {R : V → Hp → Prop} (h : dB c T W (bN (fun | [d] => p d | _ => none) [A]) σ H Q)
    (k : ∀ G1 H1 v d r, Vw c G1 H1 v d → p d = some r → (∀ a o, G1 a = some o → H1 a = some o) → Q r H1 → R v H1) :
    tO c T W A σ H fun v H1 => R v H1 := by
  obtain ⟨O, G, ρ, hold, h⟩ := h
  unfold bN ph1s at h
  refine opd_step hold ?_
  cases e1 : A.ph1 ρ with
  | bad => rw [e1] at h; exact h
  | exc x ρ' => rw [e1] at h; exact h
  | ok x ρ1 =>
    rw [e1] at h
    intro v G1 H1 tr1 hold1 ov1
    unfold ph1s at h
    simp only [Res.bind_ok, ph2s] at h
    cases q1 : A.ph2 x ρ1 with
    | none => rw [q1] at h; exact h.elim
    | some d =>
      rw [q1] at h
      simp only [Option.bind_some, Option.map_some] at h
      cases q3 : p d with
      | none => rw [q3] at h; exact h.elim
      | some r =>
        rw [q3] at h
        exact k G1 H1 v d r (ov1.view hold1 q1) q3 hold1.sub (h G1 H1 tr1 hold1)
theorem pt_truD {A : Opd} (ha : PO' X T W e A) (he : ∀ whole, isTrue e X.env whole = (do let v ← whole; standAt e.pos; holding [v] (truthy v)) := by intro _; rfl) : PT X e (dB (cnOf X) T W (bTru A)) :=
  impPT (pt_truth ha.pe he) fun σ H Q h => opd1B h fun G1 H1 v d r vw hr sub q => by
    refine ⟨r, ?_, q⟩
    rcases vw with vw | ⟨p, o, rfl, _, ob, rfl⟩
    · cases vw with
      | non => cases hr; exact rfl
      | bl b => cases hr; exact rfl
      | int i => cases hr; exact rfl
      | str x =>
        by_cases hx : x.length ≤ sizeLine
        · simp only [truD, if_pos hx] at hr; cases hr; exact ⟨hx, rfl⟩
        · simp only [truD, if_neg hx] at hr; cases hr
      | lst sq rs =>
        cases hr
        refine .inl ⟨_, (show Same G1 H1 from sub).seq sq, ?_⟩
        cases rs <;> rfl
      | tup sq rs =>
        cases hr
        refine .inr (.inl ⟨_, sqt_mono sub sq, ?_⟩)
        cases rs <;> rfl
      | dctK => cases hr
      | dctN => cases hr
    · cases o with
      | lst ds =>
        obtain ⟨vs, e1, rs⟩ := ob
        cases hr
        refine .inl ⟨vs, .of e1, ?_⟩
        cases rs <;> rfl
      | dct kvs => cases hr
/-! argument lists, displays -/
theorem pa_nD : PA X [] (dA (cnOf X) T W aN) := impPA pa_nil fun σ H Q h => by
  obtain ⟨O, G, ρ, hold, h⟩ := h
  exact h [] G H .refl hold .nil
theorem imp_aC {c : Cn} {σ : St} {H : Hp} {Q : List V → Hp → Prop} (h : dA c T W (aC f as) σ H Q) : tCons (dT c T W f) (dA c T W as) σ H Q := by
  obtain ⟨O, G, ρ, hold, h⟩ := h
  refine ⟨O, G, ρ, hold, ?_⟩
  unfold aC at h
  cases q : f ρ with
  | bad => rw [q] at h; exact h
  | exc x ρ' => rw [q] at h; exact h
  | ok r ρ1 =>
    rw [q] at h
    dsimp only [Res.bind] at h
    intro v G1 H1 t1 hold1 rr
    obtain ⟨G2, s2, t2, hold2, r2⟩ := hold1.frzR hold.oin t1 rr
    refine ⟨O, G2, ρ1, hold2, ?_⟩
    have h' := WtA.later t2 h
    cases q2 : as ρ1 with
    | bad => rw [q2] at h'; exact h'
    | exc x ρ' => rw [q2] at h'; exact h'
    | ok ds ρ2 =>
      rw [q2] at h'
      exact fun vs G3 H3 t3 hold3 rs => h' (v :: vs) G3 H3 t3 hold3 (.cons (r2.mono t3.g) rs)
theorem pa_cD (ha : PE X e (dT (cnOf X) T W f)) (hr : PA X es (dA (cnOf X) T W as)) (hs : noStar e = true) : PA X (e :: es) (dA (cnOf X) T W (aC f as)) :=
  impPA (pa_cons ha hr (starEach_cons hs)) fun _ _ _ h => imp_aC h
theorem pe_tupD {x1 : Nat} (h : PA X es (dA (cnOf X) T W as)) : PE X (.Tuple es x1 pos) (dT (cnOf X) T W (sTup as)) := impPE (pe_tup h) fun σ H Q h => by
  obtain ⟨O, G, ρ, hold, h⟩ := h
  refine ⟨O, G, ρ, hold, ?_⟩
  unfold sTup at h
  cases q : as ρ with
  | bad => rw [q] at h; exact h
  | exc x ρ' => rw [q] at h; exact h
  | ok ds ρ1 =>
    rw [q] at h
    dsimp only [Res.bind] at h
    intro vs G1 H1 t1 hold1 rs
    by_cases hz : ds.length ≤ sizeLine
    rotate_left
    · rw [if_neg hz] at h; exact h.elim
    rw [if_pos hz] at h
    refine ⟨by rw [rs.length]; exact hz, fun p hp => ?_⟩
    have tn := TrN.new (o := .tup vs) hold1.sub hold1.ntb hp (fun ps z => by cases z)
    exact h (.ref p) _ _ (t1.trans' tn.tr) (hold1.trn tn) (.tup (.inl (.inl upd_same)) (rs.mono tn.g))
theorem pe_lstD (h : PA X es (dA (cnOf X) T W as)) : PE X (.List es pos) (dT (cnOf X) T W (sLst as)) := impPE (pe_lst h) fun σ H Q h => by
  obtain ⟨O, G, ρ, hold, h⟩ := h
  refine ⟨O, G, ρ, hold, ?_⟩
  unfold sLst at h
  cases q : as ρ with
  | bad => rw [q] at h; exact h
  | exc x ρ' => rw [q] at h; exact h
  | ok ds ρ1 =>
    rw [q] at h
    dsimp only [Res.bind] at h
    intro vs G1 H1 t1 hold1 rs
    by_cases hz : ds.length ≤ sizeLine
    rotate_left
    · rw [if_neg hz] at h; exact h.elim
    rw [if_pos hz] at h
    refine ⟨by rw [rs.length]; exact hz, fun p hp => ?_⟩
    have tn := TrN.laid (G := G1) (p := p) (o := .lst vs) hold1.sub hold1.ntb hp
    exact h (.ref p) _ _ (t1.trans' tn.tr) (hold1.trn tn) ⟨p, rfl, t1.d p hp, hold1.gnone hp, vs, upd_same, rs⟩
end
end Sd
set_option Elab.async false
set_option linter.all false
set_option maxRecDepth 100000
set_option maxHeartbeats 4000000
set_option autoImplicit false
/-! Sd: operations by data. -/
namespace Sd
open PySem PySem.Spec PyProof.Rows L2

/-! ### values read as data -/
section
variable {X : Cx} {pins : List (Addr × Obj)} {σ : St} {G H : Hp} {s : Shared}
mutual
theorem Rep.reads (I : Inv X pins σ H s) (sub : Same G H) : ∀ (d : D) (v : V) (u : Value), Rep (cnOf X) G v d → d.plain = true → RelV v u → ∃ as, Reads s.heap u d as
  | .none, _, _, h, _, r => by cases h; cases r; exact ⟨_, .none⟩
  | .bool b, _, _, h, _, r => by cases h; cases r; exact ⟨_, .bool b⟩
  | .int i, _, _, h, _, r => by cases h; obtain ⟨t, rfl⟩ := r; exact ⟨_, .int i t⟩
  | .str x, _, _, h, _, r => by cases h; obtain ⟨t, rfl⟩ := r; exact ⟨_, .str x t⟩
  | .list ds, _, _, h, hp, r => by
    cases h with
    | lst sq rs =>
      cases r
      obtain ⟨its, rv, ⟨o, n, ho, hc, _, hd⟩, _⟩ := I.list (Same.seq sub sq)
      obtain ⟨as, hr⟩ := Rep.readsAll I sub ds _ its rs (by simpa [PyData.plain] using hp) rv
      exact ⟨_, .list ho hc hd hr⟩
  | .tuple ds, _, _, h, hp, r => by
    cases h with
    | tup sq rs =>
      cases r
      obtain ⟨its, rv, ⟨o, ho, hc, n, hd⟩, _⟩ := I.tuple (sqt_mono sub sq)
      obtain ⟨as, hr⟩ := Rep.readsAll I sub ds _ its rs (by simpa [PyData.plain] using hp) rv
      exact ⟨_, .tuple ho hc hd hr⟩
  | .dict _, _, _, _, hp, _ => by simp [PyData.plain] at hp
theorem Rep.readsAll (I : Inv X pins σ H s) (sub : Same G H) : ∀ (ds : List D) (vs : List V) (us : List Value), Reps (cnOf X) G vs ds → PyData.plainAll ds = true → Vals vs us → ∃ as, ReadsAll s.heap us ds as
  | [], _, _, h, _, r => by cases h; cases r; exact ⟨_, .nil⟩
  | d :: ds, _, _, h, hp, r => by
    cases h with
    | cons h1 h2 =>
      cases r with
      | cons r1 r2 =>
        simp only [PyData.plainAll, Bool.and_eq_true] at hp
        obtain ⟨as, q1⟩ := Rep.reads I sub d _ _ h1 hp.1 r1
        obtain ⟨bs, q2⟩ := Rep.readsAll I sub ds _ _ h2 hp.2 r2
        exact ⟨_, .cons q1 q2⟩
end
/-- a view of a list: its items -/
theorem Vw.list {c : Cn} {v : V} {ds : List D} (h : Vw c G H v (.list ds)) (sub : Same G H) : ∃ a vs, v = .ref a ∧ SqL c.K H a vs ∧ Reps c G vs ds := by
  rcases h with h | ⟨a, o, rfl, _, ob, e⟩
  · cases h with
    | lst sq rs => exact ⟨_, _, rfl, Same.seq sub sq, rs⟩
  · cases o with
    | lst xs =>
      obtain ⟨vs, e1, rs⟩ := ob
      cases e
      exact ⟨_, _, rfl, .of e1, rs⟩
    | dct _ => cases e
theorem Vw.tuple {c : Cn} {v : V} {ds : List D} (h : Vw c G H v (.tuple ds)) (sub : Same G H) : ∃ a vs, v = .ref a ∧ SqT c.K G a vs ∧ Reps c G vs ds := by
  rcases h with h | ⟨a, o, rfl, _, ob, e⟩
  · cases h with
    | tup sq rs => exact ⟨_, _, rfl, sq, rs⟩
  · cases o <;> cases e
theorem Vw.int {c : Cn} {v : V} {i : Int} (h : Vw c G H v (.int i)) : v = .int i := by
  rcases h with h | ⟨a, o, rfl, _, ob, e⟩
  · cases h; rfl
  · cases o <;> cases e
theorem Vw.str {c : Cn} {v : V} {i : Str} (h : Vw c G H v (.str i)) : v = .str i := by
  rcases h with h | ⟨a, o, rfl, _, ob, e⟩
  · cases h; rfl
  · cases o <;> cases e
theorem Vw.bool {c : Cn} {v : V} {i : Bool} (h : Vw c G H v (.bool i)) : v = .bl i := by
  rcases h with h | ⟨a, o, rfl, _, ob, e⟩
  · cases h; rfl
  · cases o <;> cases e
theorem Vw.none {c : Cn} {v : V} (h : Vw c G H v .none) : v = .non := by
  rcases h with h | ⟨a, o, rfl, _, ob, e⟩
  · cases h; rfl
  · cases o <;> cases e
theorem Vw.reads {v : V} {d : D} {u : Value} (h : Vw (cnOf X) G H v d) (I : Inv X pins σ H s) (sub : Same G H) (hp : d.plain = true) (r : RelV v u) : ∃ as, Reads s.heap u d as := by
  rcases h with h | ⟨a, o, rfl, _, ob, rfl⟩
  · exact h.reads I sub _ _ _ hp r
  · cases o with
    | lst xs =>
      obtain ⟨vs, e1, rs⟩ := ob
      cases r
      obtain ⟨its, rv, ⟨o, n, ho, hc, _, hd⟩, _⟩ := I.list (.of e1)
      obtain ⟨as, hr⟩ := Rep.readsAll I sub xs _ its rs (by simpa [PyData.plain, Ob.frz] using hp) rv
      exact ⟨_, .list ho hc hd hr⟩
    | dct kvs => simp [PyData.plain, Ob.frz] at hp
end

/-! ### rules by data -/
def rD (c : Cn) (p : D → D → Option Sl) : R2 := fun v w H Q => ∃ G d e s, Same G H ∧ (∀ a ps, G a ≠ some (.tbl ps)) ∧ Vw c G H v d ∧ Vw c G H w e ∧ p d e = some s ∧ ∀ u G' H', TrN G H G' H' → RepR c H G' H' u s → Q u H'
def rD1 (c : Cn) (p : D → Option Sl) : V → Hp → VK → Prop := fun v H Q => ∃ G d s, Same G H ∧ (∀ a ps, G a ≠ some (.tbl ps)) ∧ Vw c G H v d ∧ p d = some s ∧ ∀ u G' H', TrN G H G' H' → RepR c H G' H' u s → Q u H'
def rDN (c : Cn) (p : List D → Option Sl) : List V → Hp → VK → Prop := fun vs H Q => ∃ G ds s, Same G H ∧ (∀ a ps, G a ≠ some (.tbl ps)) ∧ Vws c G H vs ds ∧ p ds = some s ∧ ∀ u G' H', TrN G H G' H' → RepR c H G' H' u s → Q u H'
theorem op2_rD (c : Cn) (p : D → D → Option Sl) : Op2 c (rD c p) p := fun G H v w d e s Q sub ntb hv hw hs k => ⟨G, d, e, s, sub, ntb, hv, hw, hs, k⟩
theorem op1_rD (c : Cn) (p : D → Option Sl) : Op1 c (rD1 c p) p := fun G H v d s Q sub ntb hv hs k => ⟨G, d, s, sub, ntb, hv, hs, k⟩
section
variable {X : Cx} {T : Fx} {W : WX} {a b : Expr} {A B C : Opd} {pos : Pos}
theorem pe_opD {op : Operator} {p : D → D → Option Sl} (ho : OpR X (binaryOp op) (rD (cnOf X) p)) (ha : PO' X T W a A) (hb : PO' X T W b B) : PE X (.BinOp a op b pos) (dT (cnOf X) T W (sOp2 p A B)) := pe_op2 ho (op2_rD _ p) ha hb
theorem pe_cmpD {op : CmpOp} {p : D → D → Option Sl} (ho : OpR X (compareOp op) (rD (cnOf X) p)) (hm : behindInMarks op b = false) (ha : PO' X T W a A) (hb : PO' X T W b B) : PE X (.Compare a [op] [b] pos) (dT (cnOf X) T W (sOp2 p A B)) := pe_cmp2 ho hm (op2_rD _ p) ha hb
theorem pe_unD {op : UnaryOp} {p : D → Option Sl} (ho : UnR X (unaryOp op) (rD1 (cnOf X) p)) (ha : PO' X T W a A) : PE X (.UnaryOp op a pos) (dT (cnOf X) T W (sOp1 p A)) := pe_un1 ho (op1_rD _ p) ha
/-- a subscript -/
theorem pe_ixD {p : D → D → Option Sl} (ho : IxR X (rD (cnOf X) p)) (hs : PlainIx b) (ha : PO' X T W a A) (hb : PO' X T W b B) : PE X (.Subscript a b pos) (dT (cnOf X) T W (sOp2 p A B)) :=
  impPE (pe_ix ho ha.pe hb.pe hs) fun σ H Q h => opd2 h fun O G ρ G1 H1 v w d e s _ _ hv hw hs g1 g2 k => op2_rD _ p G1 H1 v w d e s Q g1 g2 hv hw hs k
end

/-! ### any number of operands -/
def tOs (c : Cn) (T : Fx) (W : WX) : List Opd → TA
  | [] => tNil
  | A :: As => tCons (tO c T W A) (tOs c T W As)
inductive OpVs (c : Cn) (G : Hp) (σ : St) : List Opd → List (Option D) → List V → Prop
  | nil : OpVs c G σ [] [] []
  | cons {A : Opd} {As : List Opd} {x : Option D} {xs : List (Option D)} {v : V} {vs : List V} : OpV c G σ A x v → OpVs c G σ As xs vs → OpVs c G σ (A :: As) (x :: xs) (v :: vs)
theorem opds_step {c : Cn} {T : Fx} {W : WX} {σ : St} : ∀ (As : List Opd) {O : Addr → Prop} {G H : Hp} {ρ : Ev} {Q : List V → Hp → Prop} (hold : Hold c T O G σ H ρ) (h : match ph1s As ρ with
    | .ok xs ρ' => ∀ vs G' H', Tr O G H G' H' → Hold c T O G' σ H' ρ' → OpVs c G' σ As xs vs → Q vs H'
    | .exc e ρ' => ∀ G' H', Tr O G H G' H' → Hold c T O G' σ H' ρ' → W e σ H'
    | .bad => False), tOs c T W As σ H Q := by
  intro As
  induction As with
  | nil => intro O G H ρ Q hold h; exact h [] G H .refl hold .nil
  | cons A As ih =>
    intro O G H ρ Q hold h
    refine opd_step hold ?_
    unfold ph1s at h
    cases e1 : A.ph1 ρ with
    | bad => rw [e1] at h; exact h
    | exc x ρ' => rw [e1] at h; exact h
    | ok x ρ1 =>
      rw [e1] at h
      simp only [Res.bind_ok] at h
      intro v G1 H1 tr1 hold1 ov1
      refine ih hold1 ?_
      cases e2 : ph1s As ρ1 with
      | bad => rw [e2] at h; exact h
      | exc x ρ' => rw [e2] at h; exact fun G' H' tr hd => h G' H' (tr1.trans' tr) hd
      | ok xs ρ2 =>
        rw [e2] at h
        exact fun vs G2 H2 tr2 hold2 ov2 => h (v :: vs) G2 H2 (tr1.trans' tr2) hold2 (.cons (ov1.mono tr2.g) ov2)
theorem OpVs.views {c : Cn} {T : Fx} {O : Addr → Prop} {G H : Hp} {σ : St} {ρ : Ev} (hold : Hold c T O G σ H ρ) : ∀ {As : List Opd} {xs : List (Option D)} {vs : List V} {ds : List D}, OpVs c G σ As xs vs → ph2s As xs ρ = some ds → Vws c G H vs ds
  | _, _, _, _, .nil, e => by cases e; exact .nil
  | A :: As, x :: xs, v :: vs, ds, .cons h t, e => by
    simp only [ph2s] at e
    cases q1 : A.ph2 x ρ with
    | none => rw [q1] at e; cases e
    | some d =>
      rw [q1] at e
      cases q2 : ph2s As xs ρ with
      | none => rw [q2] at e; cases e
      | some es =>
        rw [q2] at e
        cases e
        exact .cons (h.view hold q1) (OpVs.views hold t q2)
theorem opdN {c : Cn} {T : Fx} {W : WX} {σ : St} {H : Hp} {As : List Opd} {p : List D → Option Sl} {Q : VK} (h : dT c T W (sN p As) σ H Q) : tOs c T W As σ H fun vs H1 => rDN c p vs H1 Q := by
  obtain ⟨O, G, ρ, hold, h⟩ := h
  unfold sN at h
  refine opds_step As hold ?_
  cases e1 : ph1s As ρ with
  | bad => rw [e1] at h; exact h
  | exc x ρ' => rw [e1] at h; exact h
  | ok xs ρ1 =>
    rw [e1] at h
    simp only [Res.bind_ok] at h
    intro vs G1 H1 tr1 hold1 ov1
    cases q1 : ph2s As xs ρ1 with
    | none => rw [q1] at h; exact h.elim
    | some ds =>
      rw [q1] at h
      simp only [Option.bind_some] at h
      cases q3 : p ds with
      | none => rw [q3] at h; exact h.elim
      | some r =>
        rw [q3] at h
        refine ⟨G1, ds, r, hold1.sub, hold1.ntb, ov1.views hold1 q1, q3, fun u G' H' tn rr => ?_⟩
        refine h u G' H' (tr1.trans' tn.tr) (hold1.trn tn) ?_
        cases r with
        | val d => exact rr
        | own o =>
          obtain ⟨a, rfl, n0, q⟩ := rr
          exact ⟨a, rfl, tr1.d a n0, q⟩
/-- expressions with their operands -/
inductive POs (X : Cx) (T : Fx) (W : WX) : List Expr → List Opd → Prop
  | nil : POs X T W [] []
  | cons {e : Expr} {es : List Expr} {A : Opd} {As : List Opd} : noStar e = true → PO' X T W e A → POs X T W es As → POs X T W (e :: es) (A :: As)
theorem POs.pa {X : Cx} {T : Fx} {W : WX} : ∀ {es : List Expr} {As : List Opd}, POs X T W es As → PA X es (tOs (cnOf X) T W As)
  | _, _, .nil => pa_nil
  | _, _, .cons hs h t => pa_cons h.pe t.pa (starEach_cons hs)
section
variable {X : Cx} {T : Fx} {W : WX} {e : Expr} {es : List Expr} {As : List Opd} {x : Str} {id ty : String} {p0 pos : Pos} {p : List D → Option Sl}
theorem any_star {pos : Pos} {env : PySem.Env} : ∀ {es : List Expr}, es.all noStar = true → (backTo pos (starEach es env)).any (·.1) = false := by
  have key : ∀ {es : List Expr}, es.all noStar = true → (starEach es env).any (·.1) = false := by
    intro es
    induction es with
    | nil => intro _; rfl
    | cons e es ih =>
      intro h
      simp only [List.all_cons, Bool.and_eq_true] at h
      rw [starEach_cons h.1, List.any_cons, ih h.2]
      rfl
  intro es h
  have := key h
  unfold backTo
  cases hs : starEach es env with
  | nil => rfl
  | cons q l =>
    rw [hs] at this
    first
      | (simp only [List.any_map, List.any_cons] at this ⊢; exact this)
      | simpa [backTo] using this
end
end Sd
set_option Elab.async false
set_option linter.all false
set_option maxRecDepth 100000
set_option maxHeartbeats 4000000
set_option autoImplicit false
/-! Sd: the operations. -/
namespace Sd
open PySem PySem.Spec PyProof.Rows L2 PySem.SeqAt
open PySem.W (alike dataLt lt_data gt_data le_data ge_data)

def vI (i : Int) : Option Sl := some (.val (.int i))
def vB (b : Bool) : Option Sl := some (.val (.bool b))
def pAdd : D → D → Option Sl
  | .int i, .int j => vI (i + j)
  | .str x, .str y => if x.length + y.length ≤ sizeLine then some (.val (.str (x ++ y))) else none
  | .tuple xs, .tuple ys => if xs.length + ys.length ≤ sizeLine then some (.val (.tuple (xs ++ ys))) else none
  | .list xs, .list ys => if xs.length + ys.length ≤ sizeLine then some (.own (.lst (xs ++ ys))) else none
  | _, _ => none
def pSub : D → D → Option Sl
  | .int i, .int j => vI (i - j)
  | _, _ => none
def pMul : D → D → Option Sl
  | .int i, .int j => if (-(2 ^ 64) < i ∧ i < 2 ^ 64) ∨ (-(2 ^ 64) < j ∧ j < 2 ^ 64) then vI (i * j) else none
  | .list xs, .int k => if -(2 ^ 63) ≤ k ∧ k < 2 ^ 63 ∧ xs.length * k.toNat ≤ sizeLine then some (.own (.lst (List.replicate k.toNat xs).flatten)) else none
  | .tuple xs, .int k => if xs ≠ [] ∧ 2 ≤ k ∧ k ≤ 1000 ∧ xs.length ≤ 1000 then some (.val (.tuple (List.replicate k.toNat xs).flatten)) else none
  | _, _ => none
def pDiv : D → D → Option Sl
  | .int i, .int j => if 0 < j ∧ j < 1073741824 then vI (i / j) else none
  | _, _ => none
def pMod : D → D → Option Sl
  | .int i, .int j => if 0 < j then vI (i % j) else none
  | _, _ => none
def pPow : D → D → Option Sl
  | .int i, .int j => if 0 ≤ j ∧ j ≤ 1000000 ∧ i.natAbs < 2 ^ 64 then vI (i ^ j.toNat) else none
  | _, _ => none
def okEq (d : D) : Bool := d.plain && decide (d.depth ≤ 60)
def pEq (d e : D) : Option Sl := if (okEq d && okEq e) = true then vB (PyData.eqv d e) else none
def pNe (d e : D) : Option Sl := if (okEq d && okEq e) = true then vB (!PyData.eqv d e) else none
def isNoneD : D → Bool
  | .none => true
  | _ => false
def okLt (d e : D) : Bool := d.plain && e.plain && alike d e && decide (d.depth ≤ 60) && !isNoneD d
def pLt (d e : D) : Option Sl := if okLt d e = true then vB (dataLt d e) else none
def pGt (d e : D) : Option Sl := if okLt d e = true then vB (dataLt e d) else none
def pLe (d e : D) : Option Sl := if okLt d e = true then vB (!dataLt e d) else none
def pGe (d e : D) : Option Sl := if okLt d e = true then vB (!dataLt d e) else none
def inD (d : D) : D → Option Bool
  | .list xs => if (okEq d && okEq (.list xs)) = true then some (xs.any fun y => PyData.eqv y d) else none
  | .tuple xs => if (okEq d && okEq (.tuple xs)) = true then some (xs.any fun y => PyData.eqv y d) else none
  | .str z => match d with
    | .str x => some (!(Builtin.Str.occurrences z x 0 z.length 1).isEmpty)
    | _ => none
  | _ => none
def pIn (d e : D) : Option Sl := (inD d e).bind vB
def pNotIn (d e : D) : Option Sl := (inD d e).bind fun b => vB (!b)
def pIs (d e : D) : Option Sl := match e, d with
  | .none, d => vB (isNoneD d)
  | .bool b, .bool a => vB (decide (a = b))
  | _, _ => none
def pIsNot (d e : D) : Option Sl := match e, d with
  | .none, d => vB (!isNoneD d)
  | .bool b, .bool a => vB (!decide (a = b))
  | _, _ => none
def pNeg : D → Option Sl
  | .int i => vI (-i)
  | _ => none
def pIx : D → D → Option Sl
  | .list xs, .int i => (atI xs i).map .val
  | .tuple xs, .int i => (atI xs i).map .val
  | .str z, .int i => if z.length ≤ sizeLine then (atI z.cps.toList i).map fun c => .val (.str ⟨#[c]⟩) else none
  | _, _ => none

section
variable {X : Cx}
theorem k_val {c : Cn} {G H : Hp} {Q : VK} {v : V} {d : D} (sub : Same G H) (ntb : ∀ a ps, G a ≠ some (.tbl ps)) (k : ∀ u G' H', TrN G H G' H' → RepR c H G' H' u (.val d) → Q u H') (r : Rep c G v d) : Q v H :=
  k v G H (TrN.refl sub ntb) r
theorem gnone {G H : Hp} {p : Addr} (sub : Same G H) (hp : H p = none) : G p = none := by
  cases q : G p with
  | none => rfl
  | some u => rw [sub p u q] at hp; cases hp
theorem k_tup {c : Cn} {G H : Hp} {Q : VK} {vs : List V} {ds : List D} {p : Addr} (sub : Same G H) (ntb : ∀ a ps, G a ≠ some (.tbl ps)) (k : ∀ u G' H', TrN G H G' H' → RepR c H G' H' u (.val (.tuple ds)) → Q u H') (r : Reps c G vs ds) (hp : H p = none) : Q (.ref p) (upd H p (.tup vs)) :=
  have tn := TrN.new (o := .tup vs) sub ntb hp (fun ps z => by cases z)
  k _ _ _ tn (.tup (.inl (.inl upd_same)) (r.mono tn.g))
theorem k_lst {c : Cn} {G H : Hp} {Q : VK} {vs : List V} {ds : List D} {p : Addr} (sub : Same G H) (ntb : ∀ a ps, G a ≠ some (.tbl ps)) (k : ∀ u G' H', TrN G H G' H' → RepR c H G' H' u (.own (.lst ds)) → Q u H') (r : Reps c G vs ds) (hp : H p = none) : Q (.ref p) (upd H p (.lst vs)) :=
  k _ _ _ (TrN.laid sub ntb hp) ⟨p, rfl, hp, gnone sub hp, vs, upd_same, r⟩
/-- list + list, of any kinds -/
theorem op_catL : OpR X (binaryOp .Add) (fun x y H Q => ∃ l b xs zs, x = .ref l ∧ y = .ref b ∧ SqL X.K H l xs ∧ SqL X.K H b zs ∧ xs.length + zs.length ≤ sizeLine ∧ ∀ p, H p = none → Q (.ref p) (upd H p (.lst (xs ++ zs)))) := by
  intro pins s σ H x y v u Q I rx ry h
  obtain ⟨l, b, xs, zs, rfl, rfl, hH, hB, hz, q⟩ := h
  cases rx
  cases ry
  obtain ⟨its, r, ⟨⟨cls, dd, data, sl⟩, n, e, hc, hdd, hd⟩, z⟩ := I.list hH
  obtain ⟨its2, r2, ⟨⟨cls2, dd2, data2, sl2⟩, n2, e2, hc2, hdd2, hd2⟩, z2⟩ := I.list hB
  simp only at hc hdd hd hc2 hdd2 hd2
  subst hc hdd hd hc2 hdd2 hd2
  have h1 := r.length
  have h2 := r2.length
  have e : its.toArray ++ its2.toArray = (its ++ its2).toArray := by simp
  refine concat_meets ⟨_, ‹s.heap.get? l = _›, rfl⟩ ⟨_, e2, rfl⟩ noFill_list_add seq_list_add PySem.F.slot_list_add PySem.F.entry_list_add (PySem.F.args_list_add_2 _ _) (list_addW l b its.toArray its2.toArray n n2 none none sl sl2 (by simp; omega)) ⟨‹s.heap.get? l = _›, e2, ?_⟩
  rw [e]
  exact ⟨.ref _, _, I.lnew (t' := s.toks) (r.append r2) (by rw [List.length_append]; omega), rfl, q _ I.fresh⟩
theorem op_addD : OpR X (binaryOp .Add) (rD (cnOf X) pAdd) := by
  intro pins s σ H x y v u Q I rx ry ⟨G, d, e, r, sub, ntb, hv, hw, hp, k⟩
  cases d <;> cases e <;> first | (cases hp; done) | skip
  · cases hp
    exact op_add pins s σ H _ _ v u Q I rx ry ⟨_, _, hv.int, hw.int, k_val sub ntb k (.int _)⟩
  · rename_i a b
    by_cases hz : a.length + b.length ≤ sizeLine
    · simp only [pAdd, if_pos hz] at hp; cases hp
      exact op_add_str pins s σ H _ _ v u Q I rx ry ⟨_, _, hv.str, hw.str, hz, k_val sub ntb k (.str _)⟩
    · simp only [pAdd, if_neg hz] at hp; cases hp
  · rename_i a b
    by_cases hz : a.length + b.length ≤ sizeLine
    · simp only [pAdd, if_pos hz] at hp; cases hp
      obtain ⟨l, vs, rfl, sv, rv⟩ := hv.list sub
      obtain ⟨m, ws, rfl, sw, rw_⟩ := hw.list sub
      exact op_catL pins s σ H _ _ v u Q I rx ry ⟨_, _, _, _, rfl, rfl, sv, sw, by rw [rv.length, rw_.length]; exact hz, fun p hp => k_lst sub ntb k (rv.append rw_) hp⟩
    · simp only [pAdd, if_neg hz] at hp; cases hp
  · rename_i a b
    by_cases hz : a.length + b.length ≤ sizeLine
    · simp only [pAdd, if_pos hz] at hp; cases hp
      obtain ⟨l, vs, rfl, sv, rv⟩ := hv.tuple sub
      obtain ⟨m, ws, rfl, sw, rw_⟩ := hw.tuple sub
      refine op_catA pins s σ H _ _ v u Q I rx ry ⟨_, _, _, _, rfl, rfl, sqt_mono sub sv, sqt_mono sub sw, by rw [rv.length, rw_.length]; exact hz, fun e => ?_, fun e e2 => ?_, fun e e2 p hp => k_tup sub ntb k (rv.append rw_) hp⟩
      · subst e
        cases rv
        exact k_val sub ntb k (.tup sw rw_)
      · subst e2
        cases rw_
        rw [List.append_nil] at k
        exact k_val sub ntb k (.tup sv rv)
    · simp only [pAdd, if_neg hz] at hp; cases hp
theorem op_subD : OpR X (binaryOp .Sub) (rD (cnOf X) pSub) := by
  intro pins s σ H x y v u Q I rx ry ⟨G, d, e, r, sub, ntb, hv, hw, hp, k⟩
  cases d <;> cases e <;> first | (cases hp; done) | skip
  cases hp
  exact op_sub pins s σ H _ _ v u Q I rx ry ⟨_, _, hv.int, hw.int, k_val sub ntb k (.int _)⟩
theorem op_divD : OpR X (binaryOp .FloorDiv) (rD (cnOf X) pDiv) := by
  intro pins s σ H x y v u Q I rx ry ⟨G, d, e, r, sub, ntb, hv, hw, hp, k⟩
  cases d <;> cases e <;> first | (cases hp; done) | skip
  rename_i i j
  by_cases hz : 0 < j ∧ j < 1073741824
  · simp only [pDiv, if_pos hz] at hp; cases hp
    exact op_fdiv pins s σ H _ _ v u Q I rx ry ⟨_, _, hv.int, hw.int, hz, k_val sub ntb k (.int _)⟩
  · simp only [pDiv, if_neg hz] at hp; cases hp
theorem op_modD : OpR X (binaryOp .Mod) (rD (cnOf X) pMod) := by
  intro pins s σ H x y v u Q I rx ry ⟨G, d, e, r, sub, ntb, hv, hw, hp, k⟩
  cases d <;> cases e <;> first | (cases hp; done) | skip
  rename_i i j
  by_cases hz : 0 < j
  · simp only [pMod, if_pos hz] at hp; cases hp
    exact op_mod pins s σ H _ _ v u Q I rx ry ⟨_, _, hv.int, hw.int, hz, k_val sub ntb k (.int _)⟩
  · simp only [pMod, if_neg hz] at hp; cases hp
theorem op_powD : OpR X (binaryOp .Pow) (rD (cnOf X) pPow) := by
  intro pins s σ H x y v u Q I rx ry ⟨G, d, e, r, sub, ntb, hv, hw, hp, k⟩
  cases d <;> cases e <;> first | (cases hp; done) | skip
  rename_i i j
  by_cases hz : 0 ≤ j ∧ j ≤ 1000000 ∧ i.natAbs < 2 ^ 64
  · simp only [pPow, if_pos hz] at hp; cases hp
    exact op_pow pins s σ H _ _ v u Q I rx ry ⟨_, _, hv.int, hw.int, hz, k_val sub ntb k (.int _)⟩
  · simp only [pPow, if_neg hz] at hp; cases hp
theorem un_negD : UnR X (unaryOp .USub) (rD1 (cnOf X) pNeg) := by
  intro pins s σ H x v Q I rx ⟨G, d, r, sub, ntb, hv, hp, k⟩
  cases d <;> first | (cases hp; done) | skip
  cases hp
  exact un_neg pins s σ H _ v Q I rx ⟨_, hv.int, k_val sub ntb k (.int _)⟩
/-! comparisons -/
theorem okEq_iff {d : D} (h : okEq d = true) : d.plain = true ∧ d.depth ≤ 60 := by
  unfold okEq at h
  simpa using h
theorem okEq2 {d e : D} (h : (okEq d && okEq e) = true) : (d.plain = true ∧ d.depth ≤ 60) ∧ (e.plain = true ∧ e.depth ≤ 60) := by
  rw [Bool.and_eq_true] at h
  exact ⟨okEq_iff h.1, okEq_iff h.2⟩
theorem op_eqDD (hu : X.A.units + 64 < cLine) : OpR X (compareOp .Eq) (rD (cnOf X) pEq) := by
  intro pins s σ H x y v u Q I rx ry ⟨G, d, e, r, sub, ntb, hv, hw, hp, k⟩
  by_cases hz : (okEq d && okEq e) = true
  · simp only [pEq, if_pos hz] at hp; cases hp
    obtain ⟨⟨p1, d1⟩, p2, d2⟩ := okEq2 hz
    obtain ⟨as, r1⟩ := hv.reads I sub p1 rx
    obtain ⟨bs, r2⟩ := hw.reads I sub p2 ry
    exact eq_plain r1 r2 p1 p2 (by omega) ⟨.bl _, H, I, rfl, k_val sub ntb k (.bl _)⟩
  · simp only [pEq, if_neg hz] at hp; cases hp
theorem op_neDD (hu : X.A.units + 64 < cLine) : OpR X (compareOp .NotEq) (rD (cnOf X) pNe) := by
  intro pins s σ H x y v u Q I rx ry ⟨G, d, e, r, sub, ntb, hv, hw, hp, k⟩
  by_cases hz : (okEq d && okEq e) = true
  · simp only [pNe, if_pos hz] at hp; cases hp
    obtain ⟨⟨p1, d1⟩, p2, d2⟩ := okEq2 hz
    obtain ⟨as, r1⟩ := hv.reads I sub p1 rx
    obtain ⟨bs, r2⟩ := hw.reads I sub p2 ry
    exact ne_plain r1 r2 p1 p2 (by omega) ⟨.bl _, H, I, rfl, k_val sub ntb k (.bl _)⟩
  · simp only [pNe, if_neg hz] at hp; cases hp
theorem okLt_iff {d e : D} (h : okLt d e = true) : d.plain = true ∧ e.plain = true ∧ alike d e = true ∧ d.depth ≤ 60 ∧ d ≠ .none := by
  unfold okLt at h
  simp only [Bool.and_eq_true, decide_eq_true_eq, Bool.not_eq_true'] at h
  obtain ⟨⟨⟨⟨h1, h2⟩, h3⟩, h4⟩, h5⟩ := h
  exact ⟨h1, h2, h3, h4, fun z => by rw [z] at h5; cases h5⟩
theorem op_ltD (hu : X.A.units + 64 < cLine) : OpR X (compareOp .Lt) (rD (cnOf X) pLt) := by
  intro pins s σ H x y v u Q I rx ry ⟨G, d, e, r, sub, ntb, hv, hw, hp, k⟩
  by_cases hz : okLt d e = true
  · simp only [pLt, if_pos hz] at hp; cases hp
    obtain ⟨p1, p2, ha, hd, hn⟩ := okLt_iff hz
    obtain ⟨as, r1⟩ := hv.reads I sub p1 rx
    obtain ⟨bs, r2⟩ := hw.reads I sub p2 ry
    exact lt_data r1 r2 ha hn (by omega) ⟨.bl _, H, I, rfl, k_val sub ntb k (.bl _)⟩
  · simp only [pLt, if_neg hz] at hp; cases hp
theorem op_gtD (hu : X.A.units + 64 < cLine) : OpR X (compareOp .Gt) (rD (cnOf X) pGt) := by
  intro pins s σ H x y v u Q I rx ry ⟨G, d, e, r, sub, ntb, hv, hw, hp, k⟩
  by_cases hz : okLt d e = true
  · simp only [pGt, if_pos hz] at hp; cases hp
    obtain ⟨p1, p2, ha, hd, hn⟩ := okLt_iff hz
    obtain ⟨as, r1⟩ := hv.reads I sub p1 rx
    obtain ⟨bs, r2⟩ := hw.reads I sub p2 ry
    exact gt_data r1 r2 ha hn (by omega) ⟨.bl _, H, I, rfl, k_val sub ntb k (.bl _)⟩
  · simp only [pGt, if_neg hz] at hp; cases hp
theorem op_leD (hu : X.A.units + 64 < cLine) : OpR X (compareOp .LtE) (rD (cnOf X) pLe) := by
  intro pins s σ H x y v u Q I rx ry ⟨G, d, e, r, sub, ntb, hv, hw, hp, k⟩
  by_cases hz : okLt d e = true
  · simp only [pLe, if_pos hz] at hp; cases hp
    obtain ⟨p1, p2, ha, hd, hn⟩ := okLt_iff hz
    obtain ⟨as, r1⟩ := hv.reads I sub p1 rx
    obtain ⟨bs, r2⟩ := hw.reads I sub p2 ry
    exact le_data r1 r2 ha hn (by omega) ⟨.bl _, H, I, rfl, k_val sub ntb k (.bl _)⟩
  · simp only [pLe, if_neg hz] at hp; cases hp
theorem op_geD (hu : X.A.units + 64 < cLine) : OpR X (compareOp .GtE) (rD (cnOf X) pGe) := by
  intro pins s σ H x y v u Q I rx ry ⟨G, d, e, r, sub, ntb, hv, hw, hp, k⟩
  by_cases hz : okLt d e = true
  · simp only [pGe, if_pos hz] at hp; cases hp
    obtain ⟨p1, p2, ha, hd, hn⟩ := okLt_iff hz
    obtain ⟨as, r1⟩ := hv.reads I sub p1 rx
    obtain ⟨bs, r2⟩ := hw.reads I sub p2 ry
    exact ge_data r1 r2 ha hn (by omega) ⟨.bl _, H, I, rfl, k_val sub ntb k (.bl _)⟩
  · simp only [pGe, if_neg hz] at hp; cases hp
theorem depth_list (xs : List D) : (PyData.list xs).depth = PyData.depthAll xs + 1 ∨ PyData.depthAll xs ≤ (PyData.list xs).depth := by
  right; simp only [PyData.depth]; omega
theorem depth_tuple (xs : List D) : PyData.depthAll xs ≤ (PyData.tuple xs).depth := by
  simp only [PyData.depth]; omega
theorem op_inDD (hu : X.A.units + 64 < cLine) : OpR X (compareOp .In) (rD (cnOf X) pIn) := by
  intro pins s σ H x y v u Q I rx ry ⟨G, d, e, r, sub, ntb, hv, hw, hp, k⟩
  cases e <;> first | (cases hp; done) | skip
  · rename_i z
    cases d <;> first | (cases hp; done) | skip
    cases hp
    exact op_in_str pins s σ H _ _ v u Q I rx ry ⟨_, _, hv.str, hw.str, k_val sub ntb k (.bl _)⟩
  · rename_i xs
    by_cases hz : (okEq d && okEq (.list xs)) = true
    · simp only [pIn, inD, if_pos hz] at hp; cases hp
      obtain ⟨⟨p1, d1⟩, p2, d2⟩ := okEq2 hz
      obtain ⟨as, r1⟩ := hv.reads I sub p1 rx
      obtain ⟨bs, r2⟩ := hw.reads I sub p2 ry
      exact in_list_data r2 r1 (by simpa [PyData.plain] using p2) p1 (by omega) ⟨.bl _, H, I, rfl, k_val sub ntb k (.bl _)⟩
    · simp only [pIn, inD, if_neg hz] at hp; cases hp
  · rename_i xs
    by_cases hz : (okEq d && okEq (.tuple xs)) = true
    · simp only [pIn, inD, if_pos hz] at hp; cases hp
      obtain ⟨⟨p1, d1⟩, p2, d2⟩ := okEq2 hz
      obtain ⟨as, r1⟩ := hv.reads I sub p1 rx
      obtain ⟨bs, r2⟩ := hw.reads I sub p2 ry
      exact in_tuple_data r2 r1 (by simpa [PyData.plain] using p2) p1 (by omega) ⟨.bl _, H, I, rfl, k_val sub ntb k (.bl _)⟩
    · simp only [pIn, inD, if_neg hz] at hp; cases hp
theorem op_notInDD (hu : X.A.units + 64 < cLine) : OpR X (compareOp .NotIn) (rD (cnOf X) pNotIn) := by
  intro pins s σ H x y v u Q I rx ry ⟨G, d, e, r, sub, ntb, hv, hw, hp, k⟩
  cases e <;> first | (cases hp; done) | skip
  · rename_i z
    cases d <;> first | (cases hp; done) | skip
    cases hp
    exact op_notIn_str pins s σ H _ _ v u Q I rx ry ⟨_, _, hv.str, hw.str, k_val sub ntb k (.bl _)⟩
  · rename_i xs
    by_cases hz : (okEq d && okEq (.list xs)) = true
    · simp only [pNotIn, inD, if_pos hz] at hp; cases hp
      obtain ⟨⟨p1, d1⟩, p2, d2⟩ := okEq2 hz
      obtain ⟨as, r1⟩ := hv.reads I sub p1 rx
      obtain ⟨bs, r2⟩ := hw.reads I sub p2 ry
      exact notIn_list_data r2 r1 (by simpa [PyData.plain] using p2) p1 (by omega) ⟨.bl _, H, I, rfl, k_val sub ntb k (.bl _)⟩
    · simp only [pNotIn, inD, if_neg hz] at hp; cases hp
  · rename_i xs
    by_cases hz : (okEq d && okEq (.tuple xs)) = true
    · simp only [pNotIn, inD, if_pos hz] at hp; cases hp
      obtain ⟨⟨p1, d1⟩, p2, d2⟩ := okEq2 hz
      obtain ⟨as, r1⟩ := hv.reads I sub p1 rx
      obtain ⟨bs, r2⟩ := hw.reads I sub p2 ry
      exact notIn_tuple_data r2 r1 (by simpa [PyData.plain] using p2) p1 (by omega) ⟨.bl _, H, I, rfl, k_val sub ntb k (.bl _)⟩
    · simp only [pNotIn, inD, if_neg hz] at hp; cases hp
theorem Vw.isNone {c : Cn} {G H : Hp} {v : V} {d : D} (h : Vw c G H v d) : decide (v = .non) = isNoneD d := by
  rcases h with h | ⟨a, o, rfl, _, ob, rfl⟩
  · cases h <;> rfl
  · cases o <;> rfl
theorem op_isD : OpR X (compareOp .Is) (rD (cnOf X) pIs) := by
  intro pins s σ H x y v u Q I rx ry ⟨G, d, e, r, sub, ntb, hv, hw, hp, k⟩
  cases e <;> first | (cases hp; done) | skip
  · cases hp
    have e := hv.isNone
    exact op_isN pins s σ H _ _ v u Q I rx ry ⟨hw.none, by rw [e]; exact k_val sub ntb k (.bl _)⟩
  · cases d <;> first | (cases hp; done) | skip
    cases hp
    exact op_isBl pins s σ H _ _ v u Q I rx ry ⟨_, _, hv.bool, hw.bool, k_val sub ntb k (.bl _)⟩
theorem op_isNotD : OpR X (compareOp .IsNot) (rD (cnOf X) pIsNot) := by
  intro pins s σ H x y v u Q I rx ry ⟨G, d, e, r, sub, ntb, hv, hw, hp, k⟩
  cases e <;> first | (cases hp; done) | skip
  · cases hp
    have e := hv.isNone
    exact op_notN pins s σ H _ _ v u Q I rx ry ⟨hw.none, by rw [e]; exact k_val sub ntb k (.bl _)⟩
  · cases d <;> first | (cases hp; done) | skip
    cases hp
    exact op_notBl pins s σ H _ _ v u Q I rx ry ⟨_, _, hv.bool, hw.bool, k_val sub ntb k (.bl _)⟩
/-! subscripts -/
theorem Reps.atI {c : Cn} {G : Hp} {vs : List V} {ds : List D} {i : Int} {d : D} (r : Reps c G vs ds) (h : L2.atI ds i = some d) : ∃ v, L2.atI vs i = some v ∧ Rep c G v d := by
  unfold L2.atI at h ⊢
  rw [r.length]
  cases e : ixN ds.length i with
  | none => rw [e] at h; cases h
  | some j => rw [e] at h; exact r.get j h
theorem ix_D : IxR X (rD (cnOf X) pIx) := by
  intro value slice pins s σ H x y v u Q I rx ry ⟨G, d, e, r, sub, ntb, hv, hw, hp, k⟩ hs
  cases d <;> cases e <;> first | (cases hp; done) | skip
  · rename_i z i
    by_cases hz : z.length ≤ sizeLine
    · simp only [pIx, if_pos hz] at hp
      cases q : atI z.cps.toList i with
      | none => rw [q] at hp; cases hp
      | some c =>
        rw [q] at hp; cases hp
        exact ix_str value slice pins s σ H _ _ v u Q I rx ry ⟨_, _, _, hv.str, hw.int, hz, q, k_val sub ntb k (.str _)⟩ hs
    · simp only [pIx, if_neg hz] at hp; cases hp
  · rename_i xs i
    simp only [pIx] at hp
    cases q : atI xs i with
    | none => rw [q] at hp; cases hp
    | some d =>
      rw [q] at hp; cases hp
      obtain ⟨l, vs, rfl, sv, rv⟩ := hv.list sub
      obtain ⟨w, e1, r1⟩ := rv.atI q
      exact ix_list value slice pins s σ H _ _ v u Q I rx ry ⟨_, _, _, _, rfl, hw.int, sv, e1, k_val sub ntb k r1⟩ hs
  · rename_i xs i
    simp only [pIx] at hp
    cases q : atI xs i with
    | none => rw [q] at hp; cases hp
    | some d =>
      rw [q] at hp; cases hp
      obtain ⟨l, vs, rfl, sv, rv⟩ := hv.tuple sub
      obtain ⟨w, e1, r1⟩ := rv.atI q
      exact ix_tup value slice pins s σ H _ _ v u Q I rx ry ⟨_, _, _, _, rfl, hw.int, sqt_mono sub sv, e1, k_val sub ntb k r1⟩ hs
end
end Sd
set_option Elab.async false
set_option linter.all false
set_option maxRecDepth 100000
set_option maxHeartbeats 4000000
set_option autoImplicit false
/-! Sd: repeating. -/
namespace Sd
open PySem PySem.Spec PyProof.Rows L2
theorem tuple_mul1 (l : Addr) (items : Array Value) (n : Nat) (dd : Option Addr) (sl : Array (Option Value)) (x : Int) (u : Tok) (c0 : (decide (x < -(2 ^ 63)) || decide (x ≥ 2 ^ 63)) = false) (c1 : (items.isEmpty || x == 1) = true) :
    Meets (Builtin.«tuple.__mul__» ⟨[.ref l, .int x u], []⟩) (fun _ R s => s.heap.get? l = some { cls := .type "tuple", dict := dd, data := .seq items n, slots := sl } ∧ R (.ok (.ret (Value.ref l))) s) :=
  .of_wp fun prog w A R s h => by
    obtain ⟨hp, g, d, tk, os⟩ := s
    obtain ⟨hl, h⟩ := h
    have f1 := AutoSeq1.idx_int
    wp_walk using wpAny_loadPart' hl
    refine wpAny_ite_false (decide_eq_false (by rw [c0]; exact Bool.false_ne_true)) ?_
    wp_walk using wpAny_loadPart' hl
    exact ⟨_, rfl, h⟩
theorem tuple_mul0 (l : Addr) (items : Array Value) (n : Nat) (dd : Option Addr) (sl : Array (Option Value)) (x : Int) (u : Tok) (c0 : (decide (x < -(2 ^ 63)) || decide (x ≥ 2 ^ 63)) = false) (c1 : (items.isEmpty || x == 1) = false) (c2 : (decide (x ≤ 0) || items.isEmpty) = true) :
    Meets (Builtin.«tuple.__mul__» ⟨[.ref l, .int x u], []⟩) (fun _ R s => s.heap.get? l = some { cls := .type "tuple", dict := dd, data := .seq items n, slots := sl } ∧ R (.ok (.ret (Value.ref s.heap.objs.size))) { s with heap := s.heap.push { cls := Value.type "tuple", data := Data.seq #[] }, toks := s.toks }) :=
  .of_wp fun prog w A R s h => by
    obtain ⟨hp, g, d, tk, os⟩ := s
    obtain ⟨hl, h⟩ := h
    have f1 := AutoSeq1.idx_int
    wp_walk using wpAny_loadPart' hl
    repeat (first
      | (refine wpAny_ite_false (decide_eq_false (by rw [c0]; exact Bool.false_ne_true)) ?_; wp_walk using wpAny_loadPart' hl)
      | (refine wpAny_ite_false (decide_eq_false (by rw [c1]; exact Bool.false_ne_true)) ?_; wp_walk using wpAny_loadPart' hl)
      | (refine wpAny_ite_true (decide_eq_true c2) ?_; wp_walk using wpAny_loadPart' hl)
      | (refine wpAny_ite_false (decide_eq_false (Nat.not_lt.mpr (Nat.zero_le _))) ?_; wp_walk using wpAny_loadPart' hl))
    all_goals first
      | exact ⟨_, rfl, h⟩
      | skip
section
variable {X : Cx}
/-- t * k, of any kind -/
theorem op_repTA : OpR X (binaryOp .Mult) (fun x y H Q => ∃ l k xs, x = .ref l ∧ y = .int k ∧ SqT X.K H l xs ∧ (-1000 ≤ k ∧ k ≤ 1000) ∧ xs.length ≤ 1000 ∧ ((xs = [] ∨ k = 1) → Q (.ref l) H) ∧ (¬ (xs = [] ∨ k = 1) → ∀ p, H p = none → Q (.ref p) (upd H p (.tup (List.replicate k.toNat xs).flatten)))) := by
  intro pins s σ H x y v u Q I rx ry h
  obtain ⟨l, k, xs, rfl, rfl, hT, hk, hz, q1, q2⟩ := h
  by_cases h1 : xs = [] ∨ k = 1
  · cases rx
    obtain ⟨t, rfl⟩ := ry
    obtain ⟨its, r, ⟨⟨cls, dd, data, sl⟩, ho, hc, n, hd⟩, hs⟩ := I.tuple hT
    simp only at hc hd
    subst hc hd
    have c0 : (decide (k < -(2 ^ 63)) || decide (k ≥ 2 ^ 63)) = false := by
      rw [decide_eq_false (by omega), decide_eq_false (by omega)] <;> rfl
    have c1 : (its.toArray.isEmpty || k == 1) = true := by
      rcases h1 with h1 | h1
      · subst h1; cases r; rfl
      · subst h1; simp
    exact wpAny_binaryOp_repeat_ref (T := "tuple") (U := "int") (by decide) ⟨_, ho, rfl⟩ (fun s' => typeIs_int s' k t) noFill_tuple_mul F.fills_int_mul F.slot_int_rmul repeat_tuple F.slot_int_index.lookup
      (call_meets F.slot_int_rmul (typeIs_int s k t) F.entry_int_rmul (F.args_int_rmul_2 _ _) (int_rmul_tuple k t l its.toArray n dd sl)
        ⟨ho, rfl, ⟨_, ho, rfl⟩, call_meets F.slot_tuple_mul ⟨_, ho, rfl⟩ F.entry_tuple_mul (F.args_tuple_mul_2 _ _) (tuple_mul1 l its.toArray n dd sl k t c0 c1) ⟨ho, .ref l, H, I, rfl, q1 h1⟩⟩)
  · by_cases h2 : k ≤ 0
    · cases rx
      obtain ⟨t, rfl⟩ := ry
      obtain ⟨its, r, ⟨⟨cls, dd, data, sl⟩, ho, hc, n, hd⟩, hs⟩ := I.tuple hT
      simp only at hc hd
      subst hc hd
      have c0 : (decide (k < -(2 ^ 63)) || decide (k ≥ 2 ^ 63)) = false := by
        rw [decide_eq_false (by omega), decide_eq_false (by omega)] <;> rfl
      have hn : its ≠ [] := fun e => h1 (.inl (by
        rw [e] at r
        cases r
        rfl))
      have c1 : (its.toArray.isEmpty || k == 1) = false := by
        cases its with
        | nil => exact absurd rfl hn
        | cons a b =>
          simp
          omega
      have c2 : (decide (k ≤ 0) || its.toArray.isEmpty) = true := by rw [decide_eq_true h2]; rfl
      have e0 : k.toNat = 0 := by omega
      refine wpAny_binaryOp_repeat_ref (T := "tuple") (U := "int") (by decide) ⟨_, ho, rfl⟩ (fun s' => typeIs_int s' k t) noFill_tuple_mul F.fills_int_mul F.slot_int_rmul repeat_tuple F.slot_int_index.lookup
        (call_meets F.slot_int_rmul (typeIs_int s k t) F.entry_int_rmul (F.args_int_rmul_2 _ _) (int_rmul_tuple k t l its.toArray n dd sl)
          ⟨ho, rfl, ⟨_, ho, rfl⟩, call_meets F.slot_tuple_mul ⟨_, ho, rfl⟩ F.entry_tuple_mul (F.args_tuple_mul_2 _ _) (tuple_mul0 l its.toArray n dd sl k t c0 c1 c2) ⟨ho, ?_⟩⟩)
      refine ⟨.ref s.heap.objs.size, _, I.laid (t' := s.toks) (o := .tup (List.replicate k.toNat xs).flatten) (fun b ob q => Heap.get?_push_of_some _ q) (Nat.le_refl _) ?_, rfl, q2 h1 _ (I.hok.fresh (Nat.le_refl _))⟩
      rw [e0]
      exact ⟨Nat.zero_le _, [], .nil, IsTup.new _ _⟩
    · exact op_repT pins s σ H _ _ v u Q I rx ry ⟨l, k, xs, rfl, rfl, hT, fun e => h1 (.inl e), by omega, hk.2, hz, q2 h1⟩
theorem list_mulW (l : Addr) (items : Array Value) (n : Nat) (sl : Array (Option Value)) (x : Int) (u : Tok) (hc0 : ¬(!Builtin.List.listFitsIndex x) = true) (hc1 : ¬items.size * x.toNat > (2 ^ 63 - 1) / 8) (hc2 : ¬Builtin.List.listTooLong (items.size * x.toNat) = true) :
    Meets (Builtin.«list.__mul__» ⟨[.ref l, .int x u], []⟩) (fun _ R s => s.heap.get? l = some { cls := .type "list", dict := none, data := .seq items n, slots := sl } ∧ R (.ok (.ret (Value.ref s.heap.objs.size))) { s with heap := s.heap.push { cls := Value.type "list", data := Data.seq (List.foldl (fun x1 x2 => x1 ++ x2) #[] (List.replicate (if items.isEmpty = true then 0 else x.toNat) items)) }, toks := s.toks }) :=
  .of_wp fun prog w A R s h => by
    obtain ⟨hp, g, d, tk, os⟩ := s; obtain ⟨hl, h⟩ := h
    have hsz := AutoListH.joined_fits hc2
    wp_walk; refine wpAny_ite_false (decide_eq_false (Nat.not_lt.mpr hsz)) ?_; wp_walk; exact ⟨_, rfl, h⟩
theorem int_rmul_list (a : Int) (t : Tok) (l : Addr) (items : Array Value) (n : Nat) (sl : Array (Option Value)) :
    Meets (Builtin.«int.__rmul__» ⟨[.int a t, .ref l], []⟩) (fun _ R s => s.heap.get? l = some { cls := .type "list", dict := none, data := .seq items n, slots := sl } ∧ R (.ok (.ret Value.notImplemented)) s) :=
  .of_wp fun prog w A R s h => by obtain ⟨hp, g, d, tk, os⟩ := s; obtain ⟨hl, h⟩ := h; wp_walk; exact ⟨_, rfl, h⟩
theorem op_repLA : OpR X (binaryOp .Mult) (fun x y H Q => ∃ l k xs, x = .ref l ∧ y = .int k ∧ SqL X.K H l xs ∧ -(2 ^ 63) ≤ k ∧ k < 2 ^ 63 ∧ xs.length * k.toNat ≤ sizeLine ∧
  ∀ p, H p = none → Q (.ref p) (upd H p (.lst (List.replicate k.toNat xs).flatten))) := by
  intro pins s σ H x y v u Q I rx ry h
  obtain ⟨l, k, xs, rfl, rfl, hH, h1, h2, hz, q⟩ := h
  cases rx
  obtain ⟨t, rfl⟩ := ry
  obtain ⟨its, r, ⟨⟨cls, dd, data, sl⟩, n, e, hc, hdd, hd⟩, z⟩ := I.list hH
  simp only at hc hdd hd
  subst hc hdd hd
  have hl := r.length
  have hlen : its.toArray.size * k.toNat ≤ sizeLine := by rw [List.size_toArray, ← hl]; exact hz
  have hcap : ¬ its.toArray.size * k.toNat > (2 ^ 63 - 1) / 8 := by
    have : (sizeLine : Nat) ≤ (2 ^ 63 - 1) / 8 := by decide
    omega
  have hfit : ¬ (!Builtin.List.listFitsIndex k) = true := by
    rw [fitsIndex_both h1 h2]
    exact Bool.false_ne_true
  have hlong : ¬ Builtin.List.listTooLong (its.toArray.size * k.toNat) = true := by
    rw [notLongL hlen]
    exact Bool.false_ne_true
  have hnew : List.foldl (fun x1 x2 => x1 ++ x2) #[] (List.replicate (if its.toArray.isEmpty = true then 0 else k.toNat) its.toArray) = (List.replicate k.toNat its).flatten.toArray := by
    have f0 : ∀ m : Nat, List.foldl (fun x1 x2 => x1 ++ x2) #[] (List.replicate m its.toArray) = (List.replicate m its).flatten.toArray := fun m => by
      have := L2.foldl_rep its m []
      rw [List.nil_append] at this
      exact this
    rw [f0]
    cases its with
    | nil => simp
    | cons a r' => rw [if_neg (by simp)]
  refine wpAny_binaryOp_repeat_ref (T := "list") (U := "int") (by decide) ⟨_, e, rfl⟩ (fun s' => typeIs_int s' k t) noFill_list_mul F.fills_int_mul F.slot_int_rmul repeat_list F.slot_int_index.lookup
    (call_meets F.slot_int_rmul (typeIs_int s k t) F.entry_int_rmul (F.args_int_rmul_2 _ _) (int_rmul_list k t l its.toArray n sl)
      ⟨e, rfl, ⟨_, e, rfl⟩, call_meets F.slot_list_mul ⟨_, e, rfl⟩ F.entry_list_mul (F.args_list_mul_2 _ _) (list_mulW l its.toArray n sl k t hfit hcap hlong) ⟨e, ?_⟩⟩)
  rw [hnew]
  exact ⟨.ref _, _, I.lnew (t' := s.toks) (r.rep k.toNat) (by rw [PyProof.Rows.lm_len_rep_flat, Nat.mul_comm]; exact hz), rfl, q _ I.fresh⟩
def pRep : D → D → Option Sl
  | .int i, .int j => if (-(2 ^ 64) < i ∧ i < 2 ^ 64) ∨ (-(2 ^ 64) < j ∧ j < 2 ^ 64) then vI (i * j) else none
  | .list xs, .int k => if -(2 ^ 63) ≤ k ∧ k < 2 ^ 63 ∧ xs.length * k.toNat ≤ sizeLine then some (.own (.lst (List.replicate k.toNat xs).flatten)) else none
  | .tuple xs, .int k => if (-1000 ≤ k ∧ k ≤ 1000) ∧ xs.length ≤ 1000 then some (.val (.tuple (List.replicate k.toNat xs).flatten)) else none
  | _, _ => none
theorem Reps.rep {c : Cn} {G : Hp} {vs : List V} {ds : List D} (r : Reps c G vs ds) : ∀ n : Nat, Reps c G (List.replicate n vs).flatten (List.replicate n ds).flatten
  | 0 => .nil
  | n + 1 => by
    rw [List.replicate_succ, List.replicate_succ, List.flatten_cons, List.flatten_cons]
    exact r.append (Reps.rep r n)
theorem op_mulD : OpR X (binaryOp .Mult) (rD (cnOf X) pRep) := by
  intro pins s σ H x y v u Q I rx ry ⟨G, d, e, r, sub, ntb, hv, hw, hp, k⟩
  cases d <;> cases e <;> first | (cases hp; done) | skip
  · rename_i i j
    by_cases hz : (-(2 ^ 64) < i ∧ i < 2 ^ 64) ∨ (-(2 ^ 64) < j ∧ j < 2 ^ 64)
    · simp only [pRep, if_pos hz] at hp; cases hp
      exact op_mul pins s σ H _ _ v u Q I rx ry ⟨_, _, hv.int, hw.int, hz, k_val sub ntb k (.int _)⟩
    · simp only [pRep, if_neg hz] at hp; cases hp
  · rename_i xs j
    by_cases hz : -(2 ^ 63) ≤ j ∧ j < 2 ^ 63 ∧ xs.length * j.toNat ≤ sizeLine
    · simp only [pRep, if_pos hz] at hp; cases hp
      obtain ⟨l, vs, rfl, sv, rv⟩ := hv.list sub
      exact op_repLA pins s σ H _ _ v u Q I rx ry ⟨_, _, _, rfl, hw.int, sv, hz.1, hz.2.1, by rw [rv.length]; exact hz.2.2, fun p hp => k_lst sub ntb k (rv.rep _) hp⟩
    · simp only [pRep, if_neg hz] at hp; cases hp
  · rename_i xs j
    by_cases hz : (-1000 ≤ j ∧ j ≤ 1000) ∧ xs.length ≤ 1000
    · simp only [pRep, if_pos hz] at hp; cases hp
      obtain ⟨l, vs, rfl, sv, rv⟩ := hv.tuple sub
      refine op_repTA pins s σ H _ _ v u Q I rx ry ⟨_, _, _, rfl, hw.int, sqt_mono sub sv, hz.1, by rw [rv.length]; exact hz.2, fun e => ?_, fun e p hp => k_tup sub ntb k (rv.rep _) hp⟩
      rcases e with e | e
      · subst e
        cases rv
        have : (List.replicate j.toNat ([] : List D)).flatten = [] := by simp
        rw [this] at k
        exact k_val sub ntb k (.tup sv .nil)
      · subst e
        have : (List.replicate (1 : Int).toNat xs).flatten = xs := by simp [List.replicate]
        rw [this] at k
        exact k_val sub ntb k (.tup sv rv)
    · simp only [pRep, if_neg hz] at hp; cases hp
/-! slices -/
def intD : Sl → Option Int
  | .val (.int i) => some i
  | _ => none
def cutD (xs : List D) (lo hi : Option Int) : List D := (xs.drop (HT.sIx xs.length 0 lo)).take (HT.sIx xs.length xs.length hi - HT.sIx xs.length 0 lo)
def pSl (lo hi : Option Int) : D → Option Sl
  | .list xs => some (.own (.lst (cutD xs lo hi)))
  | .tuple xs => some (.val (.tuple (cutD xs lo hi)))
  | .str z => if z.length ≤ sizeLine then some (.val (.str (cutS z lo hi))) else none
  | _ => none
theorem Reps.cut {c : Cn} {G : Hp} {vs : List V} {ds : List D} (r : Reps c G vs ds) (lo hi : Option Int) : Reps c G (cutV vs lo hi) (cutD ds lo hi) := by
  unfold cutV cutD
  rw [r.length]
  exact (r.drop _).take _
theorem cut_whole {α : Type} (xs : List α) (lo hi : Option Int) (h : HT.sIx xs.length 0 lo = 0 ∧ HT.sIx xs.length xs.length hi = xs.length) : (xs.drop (HT.sIx xs.length 0 lo)).take (HT.sIx xs.length xs.length hi - HT.sIx xs.length 0 lo) = xs := by
  rw [h.1, h.2]
  simp
def rSlD (c : Cn) : V → Option Int → Option Int → Hp → VK → Prop := fun v lo hi H Q => rD1 c (pSl lo hi) v H Q
theorem sl_D : SlR X (rSlD (cnOf X)) := by
  intro pins s σ H x v vl vu lo hi sl Q I rx hs pl pu ⟨G, d, r, sub, ntb, hv, hp, k⟩
  cases d <;> first | (cases hp; done) | skip
  · rename_i z
    by_cases hz : z.length ≤ sizeLine
    · simp only [pSl, if_pos hz] at hp; cases hp
      exact sl_str pins s σ H x v vl vu lo hi sl Q I rx hs pl pu ⟨_, hv.str, hz, k_val sub ntb k (.str _)⟩
    · simp only [pSl, if_neg hz] at hp; cases hp
  · rename_i xs
    cases hp
    obtain ⟨l, vs, rfl, sv, rv⟩ := hv.list sub
    exact sl_list pins s σ H _ v vl vu lo hi sl Q I rx hs pl pu ⟨_, _, rfl, sv, fun p hp => k_lst sub ntb k (rv.cut lo hi) hp⟩
  · rename_i xs
    cases hp
    obtain ⟨l, vs, rfl, sv, rv⟩ := hv.tuple sub
    refine sl_tupA pins s σ H _ v vl vu lo hi sl Q I rx hs pl pu ⟨_, _, rfl, sqt_mono sub sv, fun e => ?_, fun e p hp => k_tup sub ntb k (rv.cut lo hi) hp⟩
    have : cutD xs lo hi = xs := by
      unfold cutD
      rw [rv.length] at e
      exact cut_whole xs lo hi e
    rw [this] at k
    exact k_val sub ntb k (.tup sv rv)
/-- a bound -/
inductive Bd where
  | no
  | ex (f : M Sl)
def Bd.run : Bd → M (Option Int)
  | .no => fun ρ => .ok none ρ
  | .ex f => fun ρ => (f ρ).bind fun r ρ' => match intD r with
    | some i => .ok (some i) ρ'
    | none => .bad
/-- a[lo:hi] -/
def sSl (A : Opd) (lo hi : Bd) : M Sl := fun ρ => (A.ph1 ρ).bind fun x ρ1 => (lo.run ρ1).bind fun l ρ2 => (hi.run ρ2).bind fun h ρ3 => Res.ofO ((A.ph2 x ρ3).bind (pSl l h)) ρ3
def POb (X : Cx) (T : Fx) (W : WX) (e : Option Expr) (b : Bd) : Prop := match b with
  | .no => e = none
  | .ex f => ∃ e', e = some e' ∧ PE X e' (dT (cnOf X) T W f)
def tBd (c : Cn) (T : Fx) (W : WX) : Bd → TO
  | .no => tNoPart
  | .ex f => tPart (dT c T W f)
theorem POb.po {X : Cx} {T : Fx} {W : WX} {e : Option Expr} {b : Bd} (h : POb X T W e b) : PO X e (tBd (cnOf X) T W b) := by
  cases b with
  | no => cases h; exact po_none
  | ex f => obtain ⟨e', rfl, h⟩ := h; exact po_some h
theorem intD_some {r : Sl} {i : Int} (h : intD r = some i) : r = .val (.int i) := by
  unfold intD at h
  split at h
  · cases h; rfl
  · cases h
theorem bd_step {c : Cn} {T : Fx} {W : WX} {O : Addr → Prop} {G H : Hp} {σ : St} {ρ : Ev} {b : Bd} {Q : Option Int → Hp → Prop} (hold : Hold c T O G σ H ρ) (h : match b.run ρ with
    | .ok x ρ' => ∀ G' H', Tr O G H G' H' → Hold c T O G' σ H' ρ' → Q x H'
    | .exc e ρ' => ∀ G' H', Tr O G H G' H' → Hold c T O G' σ H' ρ' → W e σ H'
    | .bad => False) : tBd c T W b σ H Q := by
  cases b with
  | no => exact h G H .refl hold
  | ex f =>
    refine ⟨O, G, ρ, hold, ?_⟩
    simp only [Bd.run] at h
    cases e : f ρ with
    | bad => rw [e] at h; exact h
    | exc x ρ' => rw [e] at h; exact h
    | ok r ρ' =>
      rw [e] at h
      simp only [Res.bind_ok] at h
      cases q : intD r with
      | none => rw [q] at h; exact h.elim
      | some i =>
        rw [q] at h
        intro v G' H' tr hold' rr
        rw [intD_some q] at rr
        cases rr
        exact ⟨i, rfl, h G' H' tr hold'⟩
theorem pe_slD {T : Fx} {W : WX} {e : Expr} {lo hi : Option Expr} {A : Opd} {bl bh : Bd} {pos p2 : Pos} (he : PO' X T W e A) (hl : POb X T W lo bl) (hh : POb X T W hi bh) : PE X (.Subscript e (.Slice lo hi none p2) pos) (dT (cnOf X) T W (sSl A bl bh)) :=
  impPE (pe_slice sl_D he.pe hl.po hh.po) fun σ H Q h => by
    obtain ⟨O, G, ρ, hold, h⟩ := h
    unfold sSl at h
    refine opd_step hold ?_
    cases e1 : A.ph1 ρ with
    | bad => rw [e1] at h; exact h
    | exc x ρ' => rw [e1] at h; exact h
    | ok x ρ1 =>
      rw [e1] at h
      simp only [Res.bind_ok] at h
      intro v G1 H1 tr1 hold1 ov1
      refine bd_step hold1 ?_
      cases e2 : bl.run ρ1 with
      | bad => rw [e2] at h; exact h
      | exc x ρ' => rw [e2] at h; exact fun G' H' tr hd => h G' H' (tr1.trans' tr) hd
      | ok l ρ2 =>
        rw [e2] at h
        simp only [Res.bind_ok] at h
        intro G2 H2 tr2 hold2
        refine bd_step hold2 ?_
        cases e3 : bh.run ρ2 with
        | bad => rw [e3] at h; exact h
        | exc x ρ' => rw [e3] at h; exact fun G' H' tr hd => h G' H' ((tr1.trans' tr2).trans' tr) hd
        | ok u ρ3 =>
          rw [e3] at h
          simp only [Res.bind_ok] at h
          intro G3 H3 tr3 hold3
          cases q1 : A.ph2 x ρ3 with
          | none => rw [q1] at h; exact h.elim
          | some d =>
            rw [q1] at h
            simp only [Option.bind_some] at h
            cases q3 : pSl l u d with
            | none => rw [q3] at h; exact h.elim
            | some r =>
              rw [q3] at h
              refine ⟨G3, d, r, hold3.sub, hold3.ntb, ((ov1.mono tr2.g).mono tr3.g).view hold3 q1, q3, fun u' G' H' tn rr => ?_⟩
              refine h u' G' H' (((tr1.trans' tr2).trans' tr3).trans' tn.tr) (hold3.trn tn) ?_
              exact rr.back ((tr1.trans' tr2).trans' tr3).d
end
end Sd
set_option Elab.async false
set_option linter.all false
set_option maxRecDepth 100000
set_option maxHeartbeats 4000000
set_option autoImplicit false
/-! Sd: calls of builtins. -/
namespace Sd
open PySem PySem.Spec PyProof.Rows L2
open PySem.W (AllAlike Sortable dataLe EachIs)

section
variable {X : Cx} {T : Fx} {W : WX} {e : Expr} {es : List Expr} {A : Opd} {As : List Opd} {x : Str} {id ty : String} {p0 p1 pos : Pos} {p : List D → Option Sl}
theorem starEach_hd (h : noStar e = true) : starEach (e :: es) X.env = (false, eval e X.env) :: starEach es X.env := starEach_cons h
theorem pe_bD (hc : CallR X (.builtin id) (rDN (cnOf X) p)) (hv : bootBuiltins x = some (.builtin id)) (hg : Gl X x) (hm : X.mg x = none) (ha : POs X T W (e :: es) As) (hst : (e :: es).all noStar = true) (hn : x ≠ "__name__" := by decide) (hdb : (x == ("__debug__" : Str)) = false := by decide) :
    PE X (.Call (.Name x p0) (e :: es) [] pos) (dT (cnOf X) T W (sN p As)) := by
  have h2 : noStar e = true ∧ es.all noStar = true := by simpa using hst
  exact impPE (pe_callB hc hg hm hv ha.pa hn hdb (starEach_cons h2.1) (any_star h2.2)) fun σ H Q h => opdN h
theorem pe_tD (hc : CallR X (.type ty) (rDN (cnOf X) p)) (hv : bootBuiltins x = some (.type ty)) (hg : Gl X x) (hm : X.mg x = none) (ha : POs X T W (e :: es) As) (hst : (e :: es).all noStar = true) (hn : x ≠ "__name__" := by decide) (hdb : (x == ("__debug__" : Str)) = false := by decide) :
    PE X (.Call (.Name x p0) (e :: es) [] pos) (dT (cnOf X) T W (sN p As)) := by
  have h2 : noStar e = true ∧ es.all noStar = true := by simpa using hst
  exact impPE (pe_callTy hc hg hm hv ha.pa hn hdb (starEach_cons h2.1) (any_star h2.2)) fun σ H Q h => opdN h

/-! isinstance -/
def isiD (T : String) (d : D) : Option Bool :=
  if T = "int" then some d.isInt else if T = "bool" then some d.isBool else if T = "str" then some d.isStr else if T = "list" then some d.isList else if T = "tuple" then some d.isTuple else if T = "dict" then some d.isDict else none
def pIsi (T : String) (d : D) : Option Sl := if d.plain = true then (isiD T d).bind vB else none
theorem call_isiD (T : String) : CallR X (.builtin "isinstance") (fun xs H Q => ∃ v, xs = [v, .ty T] ∧ rD1 (cnOf X) (pIsi T) v H Q) := by
  intro pins s σ H xs us Q I rs ⟨v, hx, G, d, r, sub, ntb, hv, hp, k⟩
  subst hx
  obtain ⟨u, t, rfl, r1, r2⟩ : ∃ u t, us = [u, t] ∧ RelV v u ∧ RelV (.ty T) t := by
    cases rs with
    | cons a b => cases b with
      | cons c d => cases d; exact ⟨_, _, rfl, a, c⟩
  cases r2
  by_cases hpl : d.plain = true
  rotate_left
  · simp only [pIsi, if_neg hpl] at hp; cases hp
  simp only [pIsi, if_pos hpl] at hp
  obtain ⟨as, rd⟩ := hv.reads I sub hpl r1
  unfold isiD at hp
  split at hp
  · rename_i e; subst e; cases hp
    exact PySem.W.isinstance_int_data rd fun tk _ => ⟨.bl _, H, I.tok _, rfl, k_val sub ntb k (.bl _)⟩
  split at hp
  · rename_i e; subst e; cases hp
    exact PySem.W.isinstance_bool_data rd fun tk _ => ⟨.bl _, H, I.tok _, rfl, k_val sub ntb k (.bl _)⟩
  split at hp
  · rename_i e; subst e; cases hp
    exact PySem.W.isinstance_str_data rd fun tk _ => ⟨.bl _, H, I.tok _, rfl, k_val sub ntb k (.bl _)⟩
  split at hp
  · rename_i e; subst e; cases hp
    exact PySem.W.isinstance_list_data rd fun tk _ => ⟨.bl _, H, I.tok _, rfl, k_val sub ntb k (.bl _)⟩
  split at hp
  · rename_i e; subst e; cases hp
    exact PySem.W.isinstance_tuple_data rd fun tk _ => ⟨.bl _, H, I.tok _, rfl, k_val sub ntb k (.bl _)⟩
  split at hp
  · rename_i e; subst e; cases hp
    exact PySem.W.isinstance_dict_data rd fun tk _ => ⟨.bl _, H, I.tok _, rfl, k_val sub ntb k (.bl _)⟩
  · cases hp
theorem pe_isiD {Tn : String} {y : Str} (hg : Gl X "isinstance") (hm : X.mg "isinstance" = none) (hy : Gl X y) (hmy : X.mg y = none) (hv : bootBuiltins y = some (.type Tn)) (hs : noStar e = true) (ha : PO' X T W e A) (hn : y ≠ "__name__" := by decide) (hdb : (y == ("__debug__" : Str)) = false := by decide) :
    PE X (.Call (.Name "isinstance" p0) [e, .Name y p1] [] pos) (dT (cnOf X) T W (sOp1 (pIsi Tn) A)) := by
  have hb : PE X (.Name y p1) (tC (.ty Tn)) := pe_bltn hy hmy hv (show RelV (.ty Tn) (.type Tn) from rfl) hn hdb
  refine impPE (pe_callB (call_isiD Tn) hg hm (show bootBuiltins "isinstance" = some (.builtin "isinstance") by decide +kernel) (pa_cons ha.pe (pa_cons hb pa_nil rfl) (starEach_cons hs)) (by decide) (by decide) (starEach_cons hs) rfl) fun σ H Q h => ?_
  exact opd1 h fun G1 H1 v d r hv hs g1 g2 k => ⟨v, rfl, op1_rD _ _ G1 H1 v d r Q g1 g2 hv hs k⟩

/-! len, abs, int, sum, min, max, sorted, tuple, list -/
theorem one_arg {c : Cn} {G H : Hp} {vs : List V} {d : D} (h : Vws c G H vs [d]) : ∃ v, vs = [v] ∧ Vw c G H v d := by
  cases h with
  | cons a b => cases b; exact ⟨_, rfl, a⟩
theorem two_args {c : Cn} {G H : Hp} {vs : List V} {d e : D} (h : Vws c G H vs [d, e]) : ∃ v w, vs = [v, w] ∧ Vw c G H v d ∧ Vw c G H w e := by
  cases h with
  | cons a b => cases b with
    | cons c d => cases d; exact ⟨_, _, rfl, a, c⟩
def pLen : List D → Option Sl
  | [.list xs] => vI xs.length
  | [.tuple xs] => vI xs.length
  | [.str x] => if x.length ≤ sizeLine then vI x.length else none
  | _ => none
theorem cr_len : CallR X (.builtin "len") (rDN (cnOf X) pLen) := by
  intro pins s σ H xs us Q I rs ⟨G, ds, r, sub, ntb, hv, hp, k⟩
  unfold pLen at hp
  split at hp
  · cases hp
    obtain ⟨v, rfl, hv1⟩ := one_arg hv; have hv := hv1
    obtain ⟨l, vs, rfl, sv, rv⟩ := hv.list sub
    exact call_len pins s σ H _ us Q I rs ⟨_, _, rfl, .inl ⟨_, sv, rfl⟩, by rw [rv.length]; exact k_val sub ntb k (.int _)⟩
  · cases hp
    obtain ⟨v, rfl, hv1⟩ := one_arg hv; have hv := hv1
    obtain ⟨l, vs, rfl, sv, rv⟩ := hv.tuple sub
    exact call_len pins s σ H _ us Q I rs ⟨_, _, rfl, .inr ⟨_, sqt_mono sub sv, rfl⟩, by rw [rv.length]; exact k_val sub ntb k (.int _)⟩
  · split at hp
    · rename_i hz
      cases hp
      obtain ⟨v, rfl, hv1⟩ := one_arg hv; have hv := hv1
      rw [hv.str] at rs
      exact call_len pins s σ H _ us Q I rs ⟨_, _, rfl, ⟨hz, rfl⟩, k_val sub ntb k (.int _)⟩
    · cases hp
  · cases hp
def pAbs : List D → Option Sl
  | [.int i] => vI (if i < 0 then -i else i)
  | _ => none
theorem cr_abs : CallR X (.builtin "abs") (rDN (cnOf X) pAbs) := by
  intro pins s σ H xs us Q I rs ⟨G, ds, r, sub, ntb, hv, hp, k⟩
  unfold pAbs at hp
  split at hp
  · cases hp
    obtain ⟨v, rfl, hv1⟩ := one_arg hv; have hv := hv1
    rw [hv.int] at rs
    exact call_abs pins s σ H _ us Q I rs ⟨_, rfl, k_val sub ntb k (.int _)⟩
  · cases hp
def pInt : List D → Option Sl
  | [.int i] => vI i
  | [.bool b] => vI (if b then 1 else 0)
  | _ => none
theorem cr_int : CallR X (.type "int") (rDN (cnOf X) pInt) := by
  intro pins s σ H xs us Q I rs ⟨G, ds, r, sub, ntb, hv, hp, k⟩
  unfold pInt at hp
  split at hp
  · cases hp
    obtain ⟨v, rfl, hv1⟩ := one_arg hv; have hv := hv1
    rw [hv.int] at rs
    exact call_int1 pins s σ H _ us Q I rs (.inl ⟨_, rfl, k_val sub ntb k (.int _)⟩)
  · cases hp
    obtain ⟨v, rfl, hv1⟩ := one_arg hv; have hv := hv1
    rw [hv.bool] at rs
    exact call_int1 pins s σ H _ us Q I rs (.inr ⟨_, rfl, k_val sub ntb k (.int _)⟩)
  · cases hp
/-- a list of ints -/
def intsD : List D → Option (List Int)
  | [] => some []
  | .int i :: r => (intsD r).map (i :: ·)
  | _ :: _ => none
theorem intsD_map : ∀ {xs : List D} {ns : List Int}, intsD xs = some ns → xs = ns.map .int
  | [], _, h => by cases h; rfl
  | d :: r, ns, h => by
    cases d <;> first | (cases h; done) | skip
    simp only [intsD] at h
    cases q : intsD r with
    | none => rw [q] at h; cases h
    | some ms => rw [q] at h; cases h; rw [intsD_map q]; rfl
@[simp] theorem intsD_ints : ∀ ns : List Int, intsD (ns.map .int) = some ns
  | [] => rfl
  | n :: ns => by simp only [List.map_cons, intsD, intsD_ints ns]; rfl
theorem Reps.ints {c : Cn} {G : Hp} : ∀ {vs : List V} {ns : List Int}, Reps c G vs (ns.map .int) → vs = ns.map .int
  | _, [], .nil => rfl
  | _, n :: ns, .cons a b => by cases a; rw [Reps.ints b]; rfl
def pSum : List D → Option Sl
  | [.list xs] => (intsD xs).bind fun ns => vI ns.sum
  | _ => none
theorem cr_sumD (hc : X.calm = true) : CallR X (.builtin "sum") (rDN (cnOf X) pSum) := by
  intro pins s σ H xs us Q I rs ⟨G, ds, r, sub, ntb, hv, hp, k⟩
  unfold pSum at hp
  split at hp
  · rename_i xs
    cases q : intsD xs with
    | none => rw [q] at hp; cases hp
    | some ns =>
      rw [q] at hp; cases hp
      obtain ⟨v, rfl, hv1⟩ := one_arg hv; have hv := hv1
      rw [intsD_map q] at hv
      obtain ⟨l, vs, rfl, sv, rv⟩ := hv.list sub
      rw [rv.ints] at sv
      exact cr_sum hc pins s σ H _ us Q I rs ⟨_, _, rfl, sv, k_val sub ntb k (.int _)⟩
  · cases hp
def pMax : List D → Option Sl
  | [.list xs] => (intsD xs).bind fun ns => ns.max?.bind vI
  | [.int i, .int j] => vI (max i j)
  | _ => none
def pMin : List D → Option Sl
  | [.list xs] => (intsD xs).bind fun ns => ns.min?.bind vI
  | [.int i, .int j] => vI (min i j)
  | _ => none
theorem cr_maxD (hc : X.calm = true) : CallR X (.builtin "max") (rDN (cnOf X) pMax) := by
  intro pins s σ H xs us Q I rs ⟨G, ds, r, sub, ntb, hv, hp, k⟩
  unfold pMax at hp
  split at hp
  · rename_i xs
    cases q : intsD xs with
    | none => rw [q] at hp; cases hp
    | some ns =>
      rw [q] at hp
      cases qm : ns.max? with
      | none => simp only [Option.bind_some, qm] at hp; cases hp
      | some m =>
      simp only [Option.bind_some, qm] at hp; cases hp
      obtain ⟨v, rfl, hv1⟩ := one_arg hv; have hv := hv1
      rw [intsD_map q] at hv
      obtain ⟨l, vs, rfl, sv, rv⟩ := hv.list sub
      rw [rv.ints] at sv
      have hm := List.max?_eq_some_iff.mp qm
      refine cr_max hc pins s σ H _ us Q I rs ⟨_, _, rfl, sv, List.length_pos_of_mem hm.1, fun y hy hle => ?_⟩
      have : y = m := Int.le_antisymm (hm.2 y hy) (hle m hm.1)
      subst this
      exact k_val sub ntb k (.int _)
  · rename_i i j
    cases hp
    obtain ⟨v, w, rfl, hv1, hw⟩ := two_args hv; have hv := hv1
    rw [hv.int, hw.int] at rs
    refine call_max2 hc pins s σ H _ us Q I rs ⟨_, _, rfl, ?_⟩
    have : (if j > i then j else i) = max i j := by
      rw [Int.max_def]
      by_cases h : i < j
      · rw [if_pos h, if_pos (by omega)]
      · rw [if_neg h]
        by_cases h2 : i ≤ j
        · rw [if_pos h2]; omega
        · rw [if_neg h2]
    rw [this]
    exact k_val sub ntb k (.int _)
  · cases hp
theorem cr_minD (hc : X.calm = true) : CallR X (.builtin "min") (rDN (cnOf X) pMin) := by
  intro pins s σ H xs us Q I rs ⟨G, ds, r, sub, ntb, hv, hp, k⟩
  unfold pMin at hp
  split at hp
  · rename_i xs
    cases q : intsD xs with
    | none => rw [q] at hp; cases hp
    | some ns =>
      rw [q] at hp
      cases qm : ns.min? with
      | none => simp only [Option.bind_some, qm] at hp; cases hp
      | some m =>
      simp only [Option.bind_some, qm] at hp; cases hp
      obtain ⟨v, rfl, hv1⟩ := one_arg hv; have hv := hv1
      rw [intsD_map q] at hv
      obtain ⟨l, vs, rfl, sv, rv⟩ := hv.list sub
      rw [rv.ints] at sv
      have hm := List.min?_eq_some_iff.mp qm
      refine cr_min hc pins s σ H _ us Q I rs ⟨_, _, rfl, sv, List.length_pos_of_mem hm.1, fun y hy hle => ?_⟩
      have : y = m := Int.le_antisymm (hle m hm.1) (hm.2 y hy)
      subst this
      exact k_val sub ntb k (.int _)
  · rename_i i j
    cases hp
    obtain ⟨v, w, rfl, hv1, hw⟩ := two_args hv; have hv := hv1
    rw [hv.int, hw.int] at rs
    refine call_min2 hc pins s σ H _ us Q I rs ⟨_, _, rfl, ?_⟩
    have : (if j < i then j else i) = min i j := by
      rw [Int.min_def]
      by_cases h : j < i
      · rw [if_pos h, if_neg (by omega)]
      · rw [if_neg h, if_pos (by omega)]
    rw [this]
    exact k_val sub ntb k (.int _)
  · cases hp
/-! tuple, list -/
def pTuple : List D → Option Sl
  | [.list xs] => some (.val (.tuple xs))
  | [.tuple xs] => some (.val (.tuple xs))
  | _ => none
theorem cr_tuple : CallR X (.type "tuple") (rDN (cnOf X) pTuple) := by
  intro pins s σ H xs us Q I rs ⟨G, ds, r, sub, ntb, hv, hp, k⟩
  unfold pTuple at hp
  split at hp
  · cases hp
    obtain ⟨v, rfl, hv1⟩ := one_arg hv; have hv := hv1
    obtain ⟨l, vs, rfl, sv, rv⟩ := hv.list sub
    exact call_tuple_of pins s σ H _ us Q I rs ⟨_, _, rfl, .inl ⟨sv, fun p hp => k_tup sub ntb k rv hp⟩⟩
  · cases hp
    obtain ⟨v, rfl, hv1⟩ := one_arg hv; have hv := hv1
    obtain ⟨l, vs, rfl, sv, rv⟩ := hv.tuple sub
    exact call_tuple_of pins s σ H _ us Q I rs ⟨_, _, rfl, .inr ⟨sqt_mono sub sv, k_val sub ntb k (.tup sv rv)⟩⟩
  · cases hp
def pListC : List D → Option Sl
  | [.list xs] => some (.own (.lst xs))
  | [.tuple xs] => some (.own (.lst xs))
  | _ => none
theorem cr_list : CallR X (.type "list") (rDN (cnOf X) pListC) := by
  intro pins s σ H xs us Q I rs ⟨G, ds, r, sub, ntb, hv, hp, k⟩
  unfold pListC at hp
  split at hp
  · cases hp
    obtain ⟨v, rfl, hv1⟩ := one_arg hv; have hv := hv1
    obtain ⟨l, vs, rfl, sv, rv⟩ := hv.list sub
    exact call_list_of pins s σ H _ us Q I rs ⟨_, _, rfl, .inl sv, fun p hp => k_lst sub ntb k rv hp⟩
  · cases hp
    obtain ⟨v, rfl, hv1⟩ := one_arg hv; have hv := hv1
    obtain ⟨l, vs, rfl, sv, rv⟩ := hv.tuple sub
    exact call_list_of pins s σ H _ us Q I rs ⟨_, _, rfl, .inr (sqt_mono sub sv), fun p hp => k_lst sub ntb k rv hp⟩
  · cases hp
/-! sorted -/
structure SortOk (xs : List D) : Prop where
  al : AllAlike xs
  so : Sortable xs
  pl : PyData.plainAll xs = true
  dp : ∀ d ∈ xs, d.depth ≤ 60
  ln : xs.length ≤ sizeLine
def sortD (xs : List D) : List D := xs.mergeSort (dataLe false fun d => d)
open Classical in
noncomputable def pSorted : List D → Option Sl
  | [.list xs] => if SortOk xs then some (.own (.lst (sortD xs))) else none
  | _ => none
theorem Reps.each {G H : Hp} {pins : List (Addr × Obj)} {σ : St} {s : Shared} (I : Inv X pins σ H s) (sub : Same G H) : ∀ {ds : List D} {vs : List V} {us : List Value}, Reps (cnOf X) G vs ds → Vals vs us → PyData.plainAll ds = true → EachIs (fun u d => ∃ v, RelV v u ∧ Rep (cnOf X) G v d) us ds ∧ EachIs (fun u d => ∃ as, Reads s.heap u d as) us ds
  | [], _, _, h, r, _ => by cases h; cases r; exact ⟨.nil, .nil⟩
  | d :: ds, _, _, h, r, hp => by
    cases h with
    | cons h1 h2 =>
      cases r with
      | cons r1 r2 =>
        simp only [PyData.plainAll, Bool.and_eq_true] at hp
        obtain ⟨q1, q2⟩ := Reps.each I sub h2 r2 hp.2
        exact ⟨.cons ⟨_, r1, h1⟩ q1, .cons (h1.reads I sub _ _ _ hp.1 r1) q2⟩
theorem reps_of {c : Cn} {G : Hp} : ∀ {us : List Value} {ds : List D}, EachIs (fun u d => ∃ v, RelV v u ∧ Rep c G v d) us ds → ∃ vs, Vals vs us ∧ Reps c G vs ds
  | _, _, .nil => ⟨[], .nil, .nil⟩
  | _, _, .cons ⟨v, r1, r2⟩ t => by
    obtain ⟨vs, q1, q2⟩ := reps_of t
    exact ⟨v :: vs, .cons r1 q1, .cons r2 q2⟩
theorem sortD_length (xs : List D) : (sortD xs).length = xs.length := List.length_mergeSort _
theorem cr_sortedD (hu : X.A.units + 64 < cLine) : CallR X (.builtin "sorted") (rDN (cnOf X) pSorted) := by
  intro pins s σ H xs us Q I rs ⟨G, ds, r, sub, ntb, hv, hp, k⟩
  unfold pSorted at hp
  split at hp
  · rename_i xs
    by_cases ok : SortOk xs
    rotate_left
    · rw [if_neg ok] at hp; cases hp
    rw [if_pos ok] at hp; cases hp
    obtain ⟨v, rfl, hv1⟩ := one_arg hv; have hv := hv1
    obtain ⟨l, vs, rfl, sv, rv⟩ := hv.list sub
    obtain ⟨its, rvs, hl, _⟩ := I.list sv
    rw [Vals.ref1 rs]
    obtain ⟨e1, e2⟩ := Reps.each I sub rv rvs ok.pl
    have hid : xs.map (fun d => d) = xs := by simp
    refine PySem.W.sorted_data (enc := fun d => d) hl.isList e1 e2 (by rw [hid]; exact ok.al) (by rw [hid]; exact ok.so) ok.ln (fun b hb => by have := ok.dp b hb; omega) fun out hlen e3 => ?_
    obtain ⟨ws, q1, q2⟩ := reps_of e3
    obtain ⟨ep, he'⟩ := PyProof.Rows.sortedAll_at s.heap its out.toArray
    have hz : ws.length ≤ sizeLine := by rw [q2.length]; exact Nat.le_trans (Nat.le_of_eq (sortD_length xs)) ok.ln
    exact ⟨.ref _, upd H (s.heap.objs.size + 1) (.lst ws), I.laid (t' := s.toks) (fun _ _ => PyProof.Rows.sortedAll_old) (Nat.le_succ _) ⟨hz, out, ep, q1, he'⟩, rfl, k_lst sub ntb k q2 (I.hok.fresh (Nat.le_succ _))⟩
  · cases hp
end
end Sd
set_option Elab.async false
set_option linter.all false
set_option maxRecDepth 100000
set_option maxHeartbeats 4000000
set_option autoImplicit false
/-! Sd: statements. -/
namespace Sd
open PySem PySem.Spec PyProof.Rows L2

inductive Out where
  | nx (ρ : Ev)
  | rt (r : Sl) (ρ : Ev)
  | bk (ρ : Ev)
  | ct (ρ : Ev)
  | exc (c : Str) (ρ : Ev)
  | bad
abbrev MS := Ev → Out
def RetR (c : Cn) (T : Fx) (O : Addr → Prop) (H G' H' : Hp) (v : V) : Sl → Prop
  | .val d => Rep c G' v d
  | .own o => ∃ a, v = .ref a ∧ (H a = none ∨ (T.L = [] ∧ O a)) ∧ G' a = none ∧ ObAt c G' H' a o
section
variable (c : Cn) (T : Fx) (W : WX)
def WtS (O : Addr → Prop) (G : Hp) (σ : St) (H : Hp) (x : Out) (E : Ends) : Prop := match x with
  | .nx ρ' => ∀ O' G' σ' H', (∀ a, O' a → O a ∨ H a = none) → Tr O G H G' H' → Hold c T O' G' σ' H' ρ' → E.nx σ' H'
  | .bk ρ' => ∀ O' G' σ' H', (∀ a, O' a → O a ∨ H a = none) → Tr O G H G' H' → Hold c T O' G' σ' H' ρ' → E.bk σ' H'
  | .ct ρ' => ∀ O' G' σ' H', (∀ a, O' a → O a ∨ H a = none) → Tr O G H G' H' → Hold c T O' G' σ' H' ρ' → E.ct σ' H'
  | .rt r ρ' => ∀ v O' G' σ' H', (∀ a, O' a → O a ∨ H a = none) → Tr O G H G' H' → Hold c T O' G' σ' H' ρ' → RetR c T O H G' H' v r → E.rt v H'
  | .exc e ρ' => ∀ O' G' σ' H', (∀ a, O' a → O a ∨ H a = none) → Tr O G H G' H' → Hold c T O' G' σ' H' ρ' → W e σ' H'
  | .bad => False
def dS (m : MS) : TS := fun E σ H => ∃ O G ρ, Hold c T O G σ H ρ ∧ WtS c T W O G σ H (m ρ) E
end
section
variable {c : Cn} {T : Fx} {W : WX} {O O1 : Addr → Prop} {G H G1 H1 : Hp} {σ σ1 : St} {ρ : Ev}
theorem WtS.later {x : Out} {E : Ends} (ho : ∀ a, O1 a → O a ∨ H a = none) (t : Tr O G H G1 H1) (h : WtS c T W O G σ H x E) : WtS c T W O1 G1 σ1 H1 x E := by
  have o2 : ∀ {O' : Addr → Prop}, (∀ a, O' a → O1 a ∨ H1 a = none) → ∀ a, O' a → O a ∨ H a = none := fun h1 a q => (h1 a q).elim (ho a) fun e => .inr (t.d a e)
  cases x with
  | nx ρ' => exact fun O' G' σ' H' h1 t1 => h O' G' σ' H' (o2 h1) (t.trans ho t1)
  | bk ρ' => exact fun O' G' σ' H' h1 t1 => h O' G' σ' H' (o2 h1) (t.trans ho t1)
  | ct ρ' => exact fun O' G' σ' H' h1 t1 => h O' G' σ' H' (o2 h1) (t.trans ho t1)
  | exc e ρ' => exact fun O' G' σ' H' h1 t1 => h O' G' σ' H' (o2 h1) (t.trans ho t1)
  | rt r ρ' =>
    refine fun v O' G' σ' H' h1 t1 hd rr => h v O' G' σ' H' (o2 h1) (t.trans ho t1) hd ?_
    cases r with
    | val d => exact rr
    | own o =>
      obtain ⟨a, e, h1, h2⟩ := rr
      refine ⟨a, e, ?_, h2⟩
      rcases h1 with h1 | ⟨hL, h1⟩
      · exact .inl (t.d a h1)
      · exact (ho a h1).elim (fun z => .inr ⟨hL, z⟩) .inl
  | bad => exact h
/-- a slot takes an owned object -/
theorem Hold.setO {i : Nat} {a : Addr} {o : Ob} (h : Hold c T O G σ H ρ) (hi : i < σ.length) (hO : ¬ O a) (hg : G a = none) (q : ObAt c G H a o) (hL : ∀ p ∈ T.L, p.1 ≠ i) : Hold c T (fun x => O x ∨ x = a) G (σ.set i (some (.ref a))) H (ρ.set i (some (.own o))) where
  sub := h.sub
  ntb := h.ntb
  oin := fun x hx => by
    rcases hx with hx | rfl
    · exact h.oin x hx
    · obtain ⟨u, hu, _⟩ := q.there
      rw [hu]; simp
  tab := h.tab
  lnt := fun p hp => by rw [List.getElem?_set_ne (Ne.symm (hL p hp))]; exact h.lnt p hp
  len := by rw [List.length_set, List.length_set]; exact h.len
  slot := fun j s hj => by
    rcases set_some_of hj with ⟨rfl, hs⟩ | ⟨hne, hj'⟩
    · cases hs
      exact ⟨.ref a, by rw [List.getElem?_set_self hi], a, rfl, .inr rfl, hg, q⟩
    · rw [List.getElem?_set_ne (Ne.symm hne)]
      obtain ⟨v, e, r⟩ := h.slot j s hj'
      refine ⟨v, e, ?_⟩
      cases s with
      | val d => exact r
      | own o' => obtain ⟨b, e1, h1, h2⟩ := r; exact ⟨b, e1, .inl h1, h2⟩
  apart := fun j l o1 o2 b hjl hj hl ha hb => by
    have own_ne : ∀ {j : Nat} {o' : Ob}, ρ[j]? = some (some (.own o')) → σ[j]? ≠ some (some (.ref a)) := fun {j o'} hj e => by
      obtain ⟨b, e1, h1, _⟩ := h.at_own hj
      rw [e] at e1; cases e1
      exact hO h1
    rcases set_some_of hj with ⟨rfl, hs⟩ | ⟨hne, hj⟩
    · rcases set_some_of hl with ⟨rfl, hs2⟩ | ⟨hne2, hl⟩
      · exact hjl rfl
      · rw [List.getElem?_set_self hi] at ha
        cases ha
        rw [List.getElem?_set_ne (Ne.symm hne2)] at hb
        exact own_ne hl hb
    · rw [List.getElem?_set_ne (Ne.symm hne)] at ha
      rcases set_some_of hl with ⟨rfl, hs2⟩ | ⟨hne2, hl⟩
      · rw [List.getElem?_set_self hi] at hb
        cases hb
        exact own_ne ‹ρ[j]? = some (some (Sl.own o1))› ha
      · rw [List.getElem?_set_ne (Ne.symm hne2)] at hb
        exact h.apart j l o1 o2 b hjl hj hl ha hb
end

/-! ### semantics -/
def Out.seq (x : Out) (m : MS) : Out := match x with
  | .nx ρ => m ρ
  | .rt r ρ => .rt r ρ
  | .bk ρ => .bk ρ
  | .ct ρ => .ct ρ
  | .exc c ρ => .exc c ρ
  | .bad => .bad
@[simp] theorem Out.seq_nx (ρ : Ev) (m : MS) : (Out.nx ρ).seq m = m ρ := Eq.trans rfl rfl
@[simp] theorem Out.seq_rt (r : Sl) (ρ : Ev) (m : MS) : (Out.rt r ρ).seq m = .rt r ρ := rfl
@[simp] theorem Out.seq_bk (ρ : Ev) (m : MS) : (Out.bk ρ).seq m = .bk ρ := rfl
@[simp] theorem Out.seq_ct (ρ : Ev) (m : MS) : (Out.ct ρ).seq m = .ct ρ := rfl
@[simp] theorem Out.seq_exc (c : Str) (ρ : Ev) (m : MS) : (Out.exc c ρ).seq m = .exc c ρ := rfl
@[simp] theorem Out.seq_bad (m : MS) : Out.bad.seq m = .bad := rfl
def Res.out {α : Type} (r : Res α) (f : α → Ev → Out) : Out := match r with
  | .ok a ρ => f a ρ
  | .exc c ρ => .exc c ρ
  | .bad => .bad
@[simp] theorem Res.out_ok {α : Type} (a : α) (ρ : Ev) (f : α → Ev → Out) : Res.out (.ok a ρ) f = f a ρ := Eq.trans rfl rfl
@[simp] theorem Res.out_exc {α : Type} (c : Str) (ρ : Ev) (f : α → Ev → Out) : Res.out (.exc c ρ) f = .exc c ρ := rfl
@[simp] theorem Res.out_bad {α : Type} (f : α → Ev → Out) : Res.out .bad f = .bad := rfl
def mNext : MS := fun ρ => .nx ρ
def mSeq (m n : MS) : MS := fun ρ => (m ρ).seq n
def mIf (b : M Bool) (m n : MS) : MS := fun ρ => (b ρ).out fun x ρ' => if x = true then m ρ' else n ρ'
def mRet (f : M Sl) : MS := fun ρ => (f ρ).out fun r ρ' => .rt r ρ'
def mRetV (i : Nat) : MS := fun ρ => match ρ[i]? with
  | some (some s) => .rt s (ρ.set i none)
  | _ => .bad
def mRetN : MS := fun ρ => .rt (.val .none) ρ
def mBreak : MS := fun ρ => .bk ρ
def mCont : MS := fun ρ => .ct ρ
def mDrop (f : M Sl) : MS := fun ρ => (f ρ).out fun _ ρ' => .nx ρ'
def mSet (i : Nat) (f : M Sl) : MS := fun ρ => (f ρ).out fun r ρ' => .nx (ρ'.set i (some r))
def mAsg (t : Tgt) (f : M Sl) : MS := fun ρ => (f ρ).out fun r ρ' => match assignT t r.frz ρ' with
  | some ρ2 => .nx ρ2
  | none => .bad
/-- a turn's end, its loop -/
def Out.turn (x : Out) (again : MS) : Out := match x with
  | .nx ρ => again ρ
  | .ct ρ => again ρ
  | .bk ρ => .nx ρ
  | .rt r ρ => .rt r ρ
  | .exc c ρ => .exc c ρ
  | .bad => .bad
@[simp] theorem Out.turn_nx (ρ : Ev) (m : MS) : (Out.nx ρ).turn m = m ρ := Eq.trans rfl rfl
@[simp] theorem Out.turn_ct (ρ : Ev) (m : MS) : (Out.ct ρ).turn m = m ρ := Eq.trans rfl rfl
@[simp] theorem Out.turn_bk (ρ : Ev) (m : MS) : (Out.bk ρ).turn m = .nx ρ := rfl
@[simp] theorem Out.turn_rt (r : Sl) (ρ : Ev) (m : MS) : (Out.rt r ρ).turn m = .rt r ρ := rfl
@[simp] theorem Out.turn_exc (c : Str) (ρ : Ev) (m : MS) : (Out.exc c ρ).turn m = .exc c ρ := rfl
@[simp] theorem Out.turn_bad (m : MS) : Out.bad.turn m = .bad := rfl
def forItems (t : Tgt) (body : MS) : List D → MS
  | [] => fun ρ => .nx ρ
  | d :: ds => fun ρ => match assignT t d ρ with
    | some ρ1 => (body ρ1).turn (forItems t body ds)
    | none => .bad
def mFor (it : M (List D)) (t : Tgt) (body : MS) : MS := fun ρ => (it ρ).out fun items ρ' => forItems t body items ρ'
/-- a while by fuel -/
def whileN (b : M Bool) (body : MS) : Nat → MS
  | 0 => fun _ => .bad
  | n + 1 => fun ρ => (b ρ).out fun x ρ' => if x = true then (body ρ').turn (whileN b body n) else .nx ρ'
open Classical in
noncomputable def mWhile (b : M Bool) (body : MS) : MS := fun ρ => if h : ∃ n, whileN b body n ρ ≠ .bad then whileN b body (choose h) ρ else .bad
theorem turn_mono {x : Out} {m m' : MS} (h : ∀ ρ, m ρ ≠ .bad → m' ρ = m ρ) (hx : x.turn m ≠ .bad) : x.turn m' = x.turn m := by
  cases x <;> first | rfl | exact h _ hx
theorem whileN_succ {b : M Bool} {body : MS} : ∀ (n : Nat) (ρ : Ev), whileN b body n ρ ≠ .bad → whileN b body (n + 1) ρ = whileN b body n ρ := by
  intro n
  induction n with
  | zero => intro ρ h; exact (h rfl).elim
  | succ n ih =>
    intro ρ h
    show (b ρ).out _ = (b ρ).out _
    have h : (b ρ).out (fun x ρ' => if x = true then (body ρ').turn (whileN b body n) else .nx ρ') ≠ .bad := h
    cases e : b ρ with
    | bad => rfl
    | exc c ρ' => rfl
    | ok x ρ' =>
      rw [e] at h
      simp only [Res.out_ok] at h ⊢
      cases x with
      | false => rfl
      | true => exact turn_mono (fun ρ => ih ρ) h
theorem whileN_le {b : M Bool} {body : MS} {n m : Nat} (h : n ≤ m) {ρ : Ev} (hn : whileN b body n ρ ≠ .bad) : whileN b body m ρ = whileN b body n ρ := by
  induction h with
  | refl => rfl
  | step h ih => rw [whileN_succ _ _ (by rw [ih]; exact hn), ih]
theorem mWhile_eq {b : M Bool} {body : MS} {n : Nat} {ρ : Ev} (h : whileN b body n ρ ≠ .bad) : mWhile b body ρ = whileN b body n ρ := by
  unfold mWhile
  have hx : ∃ n, whileN b body n ρ ≠ .bad := ⟨n, h⟩
  rw [dif_pos hx]
  have h2 := Classical.choose_spec hx
  rcases Nat.le_total n (Classical.choose hx) with q | q
  · exact whileN_le q h
  · exact (whileN_le q h2).symm

section
variable {X : Cx} {T : Fx} {W : WX} {e a b : Expr} {st : Stmt} {rest sts ss2 : List Stmt} {pos : Pos} {f g : M Sl} {t u : M Bool} {m n : MS} {i : Nat} {x : Str}
theorem pss_nD : PSs X [] (dS (cnOf X) T W mNext) := impPSs pss_nil fun E σ H h => by
  obtain ⟨O, G, ρ, hold, h⟩ := h
  exact h O G σ H (fun _ z => .inl z) .refl hold
theorem imp_seq {c : Cn} {E : Ends} {σ : St} {H : Hp} (h : dS c T W (mSeq m n) E σ H) : dS c T W m { E with nx := fun σ' H' => dS c T W n E σ' H' } σ H := by
  obtain ⟨O, G, ρ, hold, h⟩ := h
  refine ⟨O, G, ρ, hold, ?_⟩
  unfold mSeq at h
  cases q : m ρ with
  | nx ρ1 =>
    rw [q] at h
    exact fun O' G' σ' H' ho tr hd => ⟨O', G', ρ1, hd, WtS.later ho tr h⟩
  | rt r ρ1 => rw [q] at h; exact h
  | bk ρ1 => rw [q] at h; exact h
  | ct ρ1 => rw [q] at h; exact h
  | exc c ρ1 => rw [q] at h; exact h
  | bad => rw [q] at h; exact h
theorem pss_cD (h1 : PS X st (dS (cnOf X) T W m)) (h2 : PSs X rest (dS (cnOf X) T W n)) : PSs X (st :: rest) (dS (cnOf X) T W (mSeq m n)) := impPSs (pss_cons h1 h2) fun _ _ _ h => imp_seq h
theorem pss_1D (h1 : PS X st (dS (cnOf X) T W m)) : PSs X [st] (dS (cnOf X) T W m) := pss_one h1
theorem ps_ifD (hc : PT X e (dB (cnOf X) T W t)) (ha : PSs X sts (dS (cnOf X) T W m)) (hb : PSs X ss2 (dS (cnOf X) T W n)) : PS X (.If e sts ss2 pos) (dS (cnOf X) T W (mIf t m n)) :=
  impPS (ps_if hc ha hb) fun E σ H h => by
    obtain ⟨O, G, ρ, hold, h⟩ := h
    refine ⟨O, G, ρ, hold, ?_⟩
    unfold mIf at h
    cases q : t ρ with
    | bad => rw [q] at h; exact h
    | exc x ρ' => rw [q] at h; exact fun G' H' tr hd => h O G' σ H' (fun _ z => .inl z) tr hd
    | ok x ρ' =>
      rw [q] at h
      intro G1 H1 t1 hold1
      have h' := WtS.later (σ1 := σ) (fun _ z => .inl z) t1 h
      cases x with
      | true => exact ⟨O, G1, ρ', hold1, h'⟩
      | false => exact ⟨O, G1, ρ', hold1, h'⟩
theorem ps_passD : PS X (.Pass pos) (dS (cnOf X) T W mNext) := impPS ps_pass fun E σ H h => by
  obtain ⟨O, G, ρ, hold, h⟩ := h
  exact h O G σ H (fun _ z => .inl z) .refl hold
theorem ps_breakD : PS X (.Break pos) (dS (cnOf X) T W mBreak) := impPS ps_break fun E σ H h => by
  obtain ⟨O, G, ρ, hold, h⟩ := h
  exact h O G σ H (fun _ z => .inl z) .refl hold
theorem ps_contD : PS X (.Continue pos) (dS (cnOf X) T W mCont) := impPS ps_continue fun E σ H h => by
  obtain ⟨O, G, ρ, hold, h⟩ := h
  exact h O G σ H (fun _ z => .inl z) .refl hold
theorem ps_retD (he : PE X e (dT (cnOf X) T W f)) : PS X (.Return (some e) pos) (dS (cnOf X) T W (mRet f)) := impPS (ps_ret he) fun E σ H h => by
  obtain ⟨O, G, ρ, hold, h⟩ := h
  refine ⟨O, G, ρ, hold, ?_⟩
  unfold mRet at h
  cases q : f ρ with
  | bad => rw [q] at h; exact h
  | exc x ρ' => rw [q] at h; exact fun G' H' tr hd => h O G' σ H' (fun _ z => .inl z) tr hd
  | ok r ρ' =>
    rw [q] at h
    intro v G' H' tr hd rr
    refine h v O G' σ H' (fun _ z => .inl z) tr hd ?_
    cases r with
    | val d => exact rr
    | own o => obtain ⟨a, e1, e2, e3⟩ := rr; exact ⟨a, e1, .inl e2, e3⟩
/-- return x: an owned object goes out -/
theorem ps_retVD (he : PE X e (tVar i)) (hL : T.L = []) : PS X (.Return (some e) pos) (dS (cnOf X) T W (mRetV i)) := impPS (ps_ret he) fun E σ H h => by
  obtain ⟨O, G, ρ, hold, h⟩ := h
  unfold mRetV at h
  cases q : ρ[i]? with
  | none => rw [q] at h; exact h.elim
  | some o =>
  cases o with
  | none => rw [q] at h; exact h.elim
  | some s =>
  rw [q] at h
  obtain ⟨v, e1, q1⟩ := hold.slot i s q
  have hold' : Hold (cnOf X) T O G σ H (ρ.set i none) := hold.weak rfl (by rw [List.length_set]) hold.lnt fun j s' hj => by
    rcases set_some_of hj with ⟨_, z⟩ | ⟨_, z⟩
    · cases z
    · exact ⟨z, rfl⟩
  refine ⟨v, e1, h v O G σ H (fun _ z => .inl z) .refl hold' ?_⟩
  cases s with
  | val d => exact q1
  | own o => obtain ⟨a, e1, e2, e3⟩ := q1; exact ⟨a, e1, .inr ⟨hL, e2⟩, e3⟩
theorem ps_retND : PS X (.Return none pos) (dS (cnOf X) T W mRetN) := impPS ps_retN fun E σ H h => by
  obtain ⟨O, G, ρ, hold, h⟩ := h
  exact h .non O G σ H (fun _ z => .inl z) .refl hold .non
theorem ps_dropD (he : PE X e (dT (cnOf X) T W f)) (hs : swapsWith e none pos.line X.env = pure false := by rfl) : PS X (.Expr e pos) (dS (cnOf X) T W (mDrop f)) := impPS (ps_expr he hs) fun E σ H h => by
  obtain ⟨O, G, ρ, hold, h⟩ := h
  refine ⟨O, G, ρ, hold, ?_⟩
  unfold mDrop at h
  cases q : f ρ with
  | bad => rw [q] at h; exact h
  | exc x ρ' => rw [q] at h; exact fun G' H' tr hd => h O G' σ H' (fun _ z => .inl z) tr hd
  | ok r ρ' =>
    rw [q] at h
    exact fun v G' H' tr hd rr => h O G' σ H' (fun _ z => .inl z) tr hd
theorem impPSL {e : Stmt} {t t' : TS} (h : PS X e t) (i : ∀ D σ H, σ.length = X.N.length → t' D σ H → t D σ H) : PS X e t' := ⟨fun pins s σ H D I q => h.run pins s σ H D I (i D σ H I.len q)⟩
/-- a store at slot i -/
theorem imp_set {E : Ends} {σ : St} {H : Hp} (hi : i < X.N.length) (hσ : σ.length = X.N.length) (hL : ∀ p ∈ T.L, p.1 ≠ i) (h : dS (cnOf X) T W (mSet i f) E σ H) : tAsg (dT (cnOf X) T W f) (gName i) E σ H := by
  obtain ⟨O, G, ρ, hold, h⟩ := h
  refine ⟨O, G, ρ, hold, ?_⟩
  unfold mSet at h
  cases q : f ρ with
  | bad => rw [q] at h; exact h
  | exc x ρ' => rw [q] at h; exact fun G' H' tr hd => h O G' σ H' (fun _ z => .inl z) tr hd
  | ok r ρ' =>
    rw [q] at h
    intro v G' H' tr hd rr
    cases r with
    | val d => exact h O G' _ H' (fun _ z => .inl z) tr (hd.setV rr hL)
    | own o =>
      obtain ⟨a, rfl, n0, hg, ob⟩ := rr
      have hO : ¬ O a := fun z => hold.oin a z n0
      exact h (fun y => O y ∨ y = a) G' _ H' (fun y hy => hy.elim .inl fun z => by rw [z]; exact .inr n0) tr (hd.setO (by rw [hσ]; exact hi) hO hg ob hL)
theorem lt_of_get {l : List Str} {i : Nat} {x : Str} (h : l[i]? = some x) : i < l.length := (List.getElem?_eq_some_iff.mp h).1
theorem ps_setD {pos' : Pos} (hN : X.N.Nodup) (hi : X.N[i]? = some x) (hx : Loc X.env.scope x) (hL : ∀ p ∈ T.L, p.1 ≠ i) (he : PE X e (dT (cnOf X) T W f)) (hs : swapsWith e (some (.Name x pos')) pos.line X.env = pure false := by rfl) (hf : X.fn x = true ∨ X.env.scope.names.lookup x = some .local := by first | exact .inl rfl | exact .inr rfl | assumption) :
    PS X (.Assign [.Name x pos'] e pos) (dS (cnOf X) T W (mSet i f)) := impPSL (ps_set hN hi hx he hs hf) fun E σ H hl h => imp_set (lt_of_get hi) hl hL h
/-- .. any rule for name = .. -/
theorem ps_setD' (hi : X.N[i]? = some x) (hL : ∀ p ∈ T.L, p.1 ≠ i) (h : PS X st (tAsg (dT (cnOf X) T W f) (gName i))) : PS X st (dS (cnOf X) T W (mSet i f)) := impPSL h fun E σ H hl h => imp_set (lt_of_get hi) hl hL h
theorem ps_asgD {tg : Expr} {tt : Tgt} (he : PE X e (dT (cnOf X) T W f)) (hg : PG X tg (dG (cnOf X) T tt)) (hs : swapsWithSole [tg] e pos.line X.env = pure false := by rfl) (hw : swappedStores [tg] e X.env = pure none := by rfl)
    (h1 : (assignEach [tg] X.env).map (·.2) = [assign tg X.env] := by rfl) : PS X (.Assign [tg] e pos) (dS (cnOf X) T W (mAsg tt f)) := impPS (ps_asg he hg hs hw h1) fun E σ H h => by
  obtain ⟨O, G, ρ, hold, h⟩ := h
  refine ⟨O, G, ρ, hold, ?_⟩
  unfold mAsg at h
  cases q : f ρ with
  | bad => rw [q] at h; exact h
  | exc x ρ' => rw [q] at h; exact fun G' H' tr hd => h O G' σ H' (fun _ z => .inl z) tr hd
  | ok r ρ' =>
    rw [q] at h
    intro v G' H' tr hd rr
    obtain ⟨G2, s2, tr2, hd2, r2⟩ := hd.frzR hold.oin tr rr
    simp only [Res.out_ok] at h
    cases q2 : assignT tt r.frz ρ' with
    | none => rw [q2] at h; exact h.elim
    | some ρ2 =>
      rw [q2] at h
      exact ⟨O, G2, ρ', _, hd2, r2, ρ2, q2, fun σ' _ _ hd3 => h O G2 σ' H' (fun _ z => .inl z) tr2 hd3⟩
/-! loops -/
theorem Hold.ownAll {c : Cn} {O : Addr → Prop} {G H : Hp} {σ : St} {ρ : Ev} (h : Hold c T O G σ H ρ) : True := trivial
theorem imp_for {c : Cn} {it : M (List D)} {tt : Tgt} {E : Ends} {σ : St} {H : Hp} (h : dS c T W (mFor it tt m) E σ H) : tFor (dI c T W it) (dG c T tt) (dS c T W m) E σ H := by
  obtain ⟨O, G, ρ, hold, h⟩ := h
  refine ⟨O, G, ρ, hold, ?_⟩
  unfold mFor at h
  cases q : it ρ with
  | bad => rw [q] at h; exact h
  | exc x ρ' => rw [q] at h; exact fun G' H' tr hd => h O G' σ H' (fun _ z => .inl z) tr hd
  | ok items ρ1 =>
  rw [q] at h
  simp only [Res.out_ok] at h
  intro J G1 H1 t1 hold1 io
  have h1 := WtS.later (O1 := O) (σ1 := σ) (fun _ z => .inl z) t1 h
  refine ⟨fun i k σ' H' => k = items.length - i ∧ i ≤ items.length ∧ ∃ O' G' ρ', Hold c T O' G' σ' H' ρ' ∧ Same G1 G' ∧ WtS c T W O' G' σ' H' (forItems tt m (items.drop i) ρ') E,
    ⟨items.length, by simp, Nat.zero_le _, O, G1, ρ1, hold1, fun _ _ z => z, by simpa using h1⟩, ?_⟩
  rintro i k σ' H' ⟨rfl, hi, O', G', ρ', hold', sg, h'⟩
  by_cases hlt : i < items.length
  · right
    refine ⟨io.go G' H' i sg hold'.sub hlt, ?_⟩
    have hd : items.drop i = items[i] :: items.drop (i + 1) := List.drop_eq_getElem_cons hlt
    rw [hd] at h'
    simp only [forItems] at h'
    refine ⟨fun σ2 H2 => ∃ O2 G2 ρ2, Hold c T O2 G2 σ2 H2 ρ2 ∧ Same G1 G2 ∧ WtS c T W O2 G2 σ2 H2 (forItems tt m (items.drop (i + 1)) ρ2) E,
      fun σ2 H2 ⟨O2, G2, ρ2, a, b, c⟩ => ⟨items.length - (i + 1), by omega, rfl, hlt, O2, G2, ρ2, a, b, c⟩, ?_⟩
    intro x H2 y2
    obtain ⟨d, G2, hid, tn2, rep2⟩ := io.yld G' H' i x H2 sg hold'.sub hold'.ntb hlt y2
    have hdd : d = items[i] := by rw [List.getElem?_eq_getElem hlt] at hid; exact (Option.some.inj hid).symm
    subst hdd
    have hold2 := hold'.trn tn2
    cases q1 : assignT tt items[i] ρ' with
    | none => rw [q1] at h'; exact h'.elim
    | some ρ2 =>
    rw [q1] at h'
    simp only at h'
    have h2 := WtS.later (O1 := O') (σ1 := σ') (fun _ z => .inl z) tn2.tr h'
    refine ⟨O', G2, ρ', _, hold2, rep2, ρ2, q1, fun σ3 _ _ hold3 => ⟨O', G2, ρ2, hold3, ?_⟩⟩
    cases q2 : m ρ2 with
    | bad => rw [q2] at h2; exact h2
    | nx ρ3 =>
      rw [q2] at h2
      exact fun O4 G4 σ4 H4 ho tr4 hd4 => ⟨O4, G4, ρ3, hd4, (sg.trans tn2.g).trans tr4.g, WtS.later ho tr4 h2⟩
    | ct ρ3 =>
      rw [q2] at h2
      exact fun O4 G4 σ4 H4 ho tr4 hd4 => ⟨O4, G4, ρ3, hd4, (sg.trans tn2.g).trans tr4.g, WtS.later ho tr4 h2⟩
    | bk ρ3 => rw [q2] at h2; exact h2
    | rt r ρ3 => rw [q2] at h2; exact h2
    | exc e ρ3 => rw [q2] at h2; exact h2
  · left
    have hi' : i = items.length := by omega
    subst hi'
    rw [List.drop_length] at h'
    exact ⟨io.stop G' H' _ sg hold'.sub (Nat.le_refl _), h' O' G' σ' H' (fun _ z => .inl z) .refl hold'⟩
theorem ps_forD {tg iter : Expr} {it : M (List D)} {tt : Tgt} (hp : PassesOwn (model X.prog X.w) X.A X.env X.xe) (hc : X.calm = true) (hi : PI X tg iter (dI (cnOf X) T W it)) (hg : PG X tg (dG (cnOf X) T tt)) (hb : PSs X sts (dS (cnOf X) T W m))
    (hs : ∀ x, foldedSetIterable iter X.env x = pure x := by intro _; rfl) : PS X (.For tg iter sts [] pos) (dS (cnOf X) T W (mFor it tt m)) := impPS (ps_for hp hc hi hg hb hs) fun E σ H h => imp_for h
theorem imp_while {c : Cn} {E : Ends} {σ : St} {H : Hp} (h : dS c T W (mWhile t m) E σ H) : tWhile (dB c T W t) (dS c T W m) E σ H := by
  obtain ⟨O, G, ρ, hold, h⟩ := h
  have hx : ∃ k, whileN t m k ρ ≠ .bad := by
    unfold mWhile at h
    by_cases hx : ∃ k, whileN t m k ρ ≠ .bad
    · exact hx
    · rw [dif_neg hx] at h; exact h.elim
  obtain ⟨k0, hk0⟩ := hx
  rw [mWhile_eq hk0] at h
  refine ⟨fun k σ' H' => ∃ O' G' ρ', Hold c T O' G' σ' H' ρ' ∧ WtS c T W O' G' σ' H' (whileN t m k ρ') E, ⟨k0, O, G, ρ, hold, h⟩, ?_⟩
  rintro k σ' H' ⟨O', G', ρ', hold', h'⟩
  cases k with
  | zero => exact h'.elim
  | succ k =>
    refine ⟨O', G', ρ', hold', ?_⟩
    unfold whileN at h'
    cases q : t ρ' with
    | bad => rw [q] at h'; exact h'
    | exc x ρ1 => rw [q] at h'; exact fun G1 H1 tr hd => h' O' G1 σ' H1 (fun _ z => .inl z) tr hd
    | ok x ρ1 =>
      rw [q] at h'
      simp only [Res.out_ok] at h'
      intro G1 H1 t1 hold1
      have h1 := WtS.later (O1 := O') (σ1 := σ') (fun _ z => .inl z) t1 h'
      cases x with
      | false => exact h1 O' G1 σ' H1 (fun _ z => .inl z) .refl hold1
      | true =>
        rw [if_pos rfl]
        simp only [if_true] at h1
        refine ⟨fun σ2 H2 => ∃ O2 G2 ρ2, Hold c T O2 G2 σ2 H2 ρ2 ∧ WtS c T W O2 G2 σ2 H2 (whileN t m k ρ2) E, fun σ2 H2 ⟨O2, G2, ρ2, a, b⟩ => ⟨k, Nat.lt_succ_self _, O2, G2, ρ2, a, b⟩, O', G1, ρ1, hold1, ?_⟩
        cases q2 : m ρ1 with
        | bad => rw [q2] at h1; exact h1
        | nx ρ3 =>
          rw [q2] at h1
          exact fun O4 G4 σ4 H4 ho tr4 hd4 => ⟨O4, G4, ρ3, hd4, WtS.later ho tr4 h1⟩
        | ct ρ3 =>
          rw [q2] at h1
          exact fun O4 G4 σ4 H4 ho tr4 hd4 => ⟨O4, G4, ρ3, hd4, WtS.later ho tr4 h1⟩
        | bk ρ3 => rw [q2] at h1; exact h1
        | rt r ρ3 => rw [q2] at h1; exact h1
        | exc e ρ3 => rw [q2] at h1; exact h1
theorem ps_whileD (hp : PassesOwn (model X.prog X.w) X.A X.env X.xe) (hc : PT X e (dB (cnOf X) T W t)) (hb : PSs X sts (dS (cnOf X) T W m)) : PS X (.While e sts [] pos) (dS (cnOf X) T W (mWhile t m)) := impPS (ps_while hp hc hb) fun E σ H h => imp_while h
end
end Sd
set_option Elab.async false
set_option linter.all false
set_option maxRecDepth 100000
set_option maxHeartbeats 4000000
set_option autoImplicit false
/-! Sd: defs and their calls; methods of lists. -/
namespace Sd
open PySem PySem.Spec PyProof.Rows L2 C8

inductive FR where
  | ok (r : Sl)
  | exc (c : Str)
  | bad
abbrev Fn := List D → FR
/-- with the first parameter lent: what comes out, what the lent one then is -/
inductive FL where
  | ok (r s : Sl)
  | exc (c : Str)
  | bad
abbrev FnL := Ob → List D → FL
def O0 : Addr → Prop := fun _ => False
def O1 (a : Addr) : Addr → Prop := fun x => x = a
/-- the promise of a def that keeps what it is given -/
def dSp (c : Cn) (tabs : List Addr) (n : Nat) (F : Fn) : Sp := fun vs H Q _ => vs.length = n ∧ ∃ G ds, Hold c ⟨tabs, []⟩ O0 G [] H [] ∧ Reps c G vs ds ∧ match F ds with
  | .ok r => ∀ v G' H', Tr O0 G H G' H' → Hold c ⟨tabs, []⟩ O0 G' [] H' [] → RepR c H G' H' v r → Q v H'
  | _ => False
def dSpL (c : Cn) (tabs : List Addr) (n : Nat) (F : FnL) : Sp := fun vs H Q _ => vs.length = n + 1 ∧ ∃ a ws G o ds, vs = .ref a :: ws ∧ Hold c ⟨tabs, [(0, a)]⟩ (O1 a) G [some (.ref a)] H [some (.own o)] ∧ Reps c G ws ds ∧ match F o ds with
  | .ok r s => ∀ v G' H', Tr (O1 a) G H G' H' → Hold c ⟨tabs, [(0, a)]⟩ (O1 a) G' [some (.ref a)] H' [some s] → RepR c H G' H' v r → Q v H'
  | _ => False
/-- a body as a function -/
def ofBody (k : Nat) (m : MS) : Fn := fun ds => match m (ds.map (fun d => some (.val d)) ++ List.replicate k none) with
  | .nx _ => .ok (.val .none)
  | .rt r _ => .ok r
  | .exc c _ => .exc c
  | _ => .bad
def lentOf (ρ : Ev) (r : Sl) : FL := match ρ[0]? with
  | some (some s) => .ok r s
  | _ => .bad
def ofBodyL (k : Nat) (m : MS) : FnL := fun o ds => match m (some (.own o) :: (ds.map (fun d => some (.val d)) ++ List.replicate k none)) with
  | .nx ρ => lentOf ρ (.val .none)
  | .rt r ρ => lentOf ρ r
  | .exc c _ => .exc c
  | _ => .bad

section
variable {c : Cn} {T : Fx} {O : Addr → Prop} {G H G' H' : Hp} {σ : St} {ρ : Ev}
theorem Hold.base (h : Hold c T O G σ H ρ) : Hold c ⟨T.tabs, []⟩ O0 G [] H [] :=
  ⟨h.sub, h.ntb, fun _ z => z.elim, h.tab, fun _ z => absurd z (by simp), rfl, fun i s z => by simp at z, fun i j o o' a _ z => by simp at z⟩
/-- the slots behind a call -/
theorem Hold.call (h : Hold c T O G σ H ρ) (t : Tr O0 G H G' H') (b : Hold c ⟨T.tabs, []⟩ O0 G' [] H' []) : Hold c T O G' σ H' ρ where
  sub := b.sub
  ntb := b.ntb
  oin := fun a ho e => h.oin a ho (t.d a e)
  tab := b.tab
  lnt := h.lnt
  len := h.len
  slot := fun i s hi => by
    obtain ⟨v, e, q⟩ := h.slot i s hi
    refine ⟨v, e, ?_⟩
    cases s with
    | val d => exact Rep.mono t.g q
    | own o =>
      obtain ⟨a, rfl, ho, hg, q⟩ := q
      obtain ⟨u, hu, ht, _⟩ := q.there
      refine ⟨a, rfl, ho, ?_, q.mono t.g ((t.k a u hu (fun z => z) ht).trans hu.symm)⟩
      cases z : G' a with
      | none => rfl
      | some w =>
        rcases t.n a w z with y | y | y
        · rw [hg] at y; cases y
        · rw [hu] at y; cases y
        · exact y.elim
  apart := h.apart
/-- .. behind a call that was lent slot j -/
theorem Hold.callL {j : Nat} {a : Addr} {o : Ob} {s : Sl} (h : Hold c T O G σ H ρ) (hj : ρ[j]? = some (some (.own o))) (ha : σ[j]? = some (some (.ref a))) (t : Tr (O1 a) G H G' H') (b : Hold c ⟨T.tabs, [(0, a)]⟩ (O1 a) G' [some (.ref a)] H' [some s]) : Hold c T O G' σ H' (ρ.set j (some s)) := by
  have hO : O a := by
    obtain ⟨a', e1, h1, _⟩ := h.at_own hj
    rw [ha] at e1; cases e1
    exact h1
  refine ⟨b.sub, b.ntb, fun x ho e => h.oin x ho (t.d x e), b.tab, h.lnt, by rw [List.length_set]; exact h.len, fun i s' hi => ?_, fun i l o1 o2 x hil hi hl hx hx2 => ?_⟩
  · rcases set_some_of hi with ⟨rfl, hs⟩ | ⟨hne, hi⟩
    · cases hs
      obtain ⟨v, e, q⟩ := b.slot 0 s rfl
      cases e
      refine ⟨_, ha, ?_⟩
      cases s with
      | val d => exact q
      | own o' => obtain ⟨a', e1, h1, h2⟩ := q; cases e1; exact ⟨a, rfl, hO, h2⟩
    · obtain ⟨v, e, q⟩ := h.slot i s' hi
      refine ⟨v, e, ?_⟩
      cases s' with
      | val d => exact Rep.mono t.g q
      | own o' =>
        obtain ⟨a', rfl, ho, hg, q⟩ := q
        obtain ⟨u, hu, ht, _⟩ := q.there
        have hna : ¬ O1 a a' := fun z => by
          have z : a' = a := z
          subst z
          exact h.apart j i o o' a' (Ne.symm hne) hj hi ha e
        refine ⟨a', rfl, ho, ?_, q.mono t.g ((t.k a' u hu hna ht).trans hu.symm)⟩
        cases z : G' a' with
        | none => rfl
        | some w =>
          rcases t.n a' w z with y | y | y
          · rw [hg] at y; cases y
          · rw [hu] at y; cases y
          · exact (hna y).elim
  · rcases set_some_of hi with ⟨rfl, hs⟩ | ⟨hne, hi⟩
    · rcases set_some_of hl with ⟨rfl, hs2⟩ | ⟨hne2, hl⟩
      · exact hil rfl
      · exact h.apart i l o o2 x hil hj hl hx hx2
    · rcases set_some_of hl with ⟨rfl, hs2⟩ | ⟨hne2, hl⟩
      · exact h.apart i l o1 o x hil ‹ρ[i]? = some (some (Sl.own o1))› hj hx hx2
      · exact h.apart i l o1 o2 x hil hi hl hx hx2
end
theorem slots_of {c : Cn} {G : Hp} {k : Nat} : ∀ {vs : List V} {ds : List D}, Reps c G vs ds → ∀ (i : Nat) (s : Sl), (ds.map (fun d => some (Sl.val d)) ++ List.replicate k none)[i]? = some (some s) → ∃ d v, s = .val d ∧ (vs.map some ++ List.replicate k (none : Option V))[i]? = some (some v) ∧ Rep c G v d
  | _, _, .nil, i, s, h => by
    simp only [List.map_nil, List.nil_append] at h
    have := List.getElem?_eq_some_iff.mp h
    obtain ⟨h1, h2⟩ := this
    simp at h2
  | _, _, .cons (v := v) (d := d) r t, 0, s, h => by
    simp only [List.map_cons, List.cons_append, List.getElem?_cons_zero] at h
    cases h
    exact ⟨d, v, rfl, rfl, r⟩
  | _, _, .cons r t, i + 1, s, h => by
    simp only [List.map_cons, List.cons_append, List.getElem?_cons_succ] at h ⊢
    exact slots_of t i s h
section
variable {P : Program} {w : World} {K : PySem.W.Frag} {mg : Str → Option Value} {base : Heap} {tabs : List Addr} {W : WX}
/-- a def by its body's semantics -/
theorem enter {N ps : List Str} {m : MS} {F : Fn} {vs : List V} {H : Hp} {Q : VK} {E : XK} (hF : F = ofBody (N.length - ps.length) m) (h : dSp ⟨P, w, K⟩ tabs ps.length F vs H Q E) :
    dS ⟨P, w, K⟩ ⟨tabs, []⟩ W0 m { nx := fun _ H' => Q .non H', rt := Q } (L2.start N vs) H := by
  obtain ⟨hl, G, ds, hold, rs, h⟩ := h
  have hlen : vs.length = ps.length := hl
  refine ⟨O0, G, ds.map (fun d => some (.val d)) ++ List.replicate (N.length - ps.length) none, ?_, ?_⟩
  · refine ⟨hold.sub, hold.ntb, fun _ z => z.elim, hold.tab, fun _ z => absurd z (by simp), ?_, fun i sl hi => ?_, fun i j o o' a _ hi => ?_⟩
    · unfold L2.start
      simp only [List.length_append, List.length_map, List.length_replicate, ← rs.length, hlen]
    · obtain ⟨d, v, rfl, e, r⟩ := slots_of rs i sl hi
      refine ⟨v, ?_, r⟩
      unfold L2.start
      rw [hlen]
      exact e
    · obtain ⟨d, v, e, _⟩ := slots_of rs i _ hi
      cases e
  · rw [hF] at h
    unfold ofBody at h
    cases q : m (ds.map (fun d => some (.val d)) ++ List.replicate (N.length - ps.length) none) with
    | bad => rw [q] at h; exact h.elim
    | bk ρ => rw [q] at h; exact h.elim
    | ct ρ => rw [q] at h; exact h.elim
    | exc e ρ => rw [q] at h; exact h.elim
    | nx ρ =>
      rw [q] at h
      exact fun O' G' σ' H' ho tr hd => h .non G' H' tr hd.base .non
    | rt r ρ =>
      rw [q] at h
      refine fun v O' G' σ' H' ho tr hd rr => h v G' H' tr hd.base ?_
      cases r with
      | val d => exact rr
      | own o => obtain ⟨a, e, h1, h2⟩ := rr; exact ⟨a, e, h1.elim id fun z => z.2.elim, h2⟩
/-- .. that is lent its first parameter -/
theorem enterL {N ps : List Str} {n : Nat} {m : MS} {F : FnL} {vs : List V} {H : Hp} {Q : VK} {E : XK} (hn : ps.length = n + 1) (hF : F = ofBodyL (N.length - ps.length) m) (h : dSpL ⟨P, w, K⟩ tabs n F vs H Q E) :
    ∃ a, dS ⟨P, w, K⟩ ⟨tabs, [(0, a)]⟩ W0 m { nx := fun _ H' => Q .non H', rt := Q } (L2.start N vs) H := by
  obtain ⟨hl, a, ws, G, o, ds, rfl, hold, rs, h⟩ := h
  refine ⟨a, ?_⟩
  have hlen : ws.length + 1 = ps.length := by rw [hn]; exact hl
  have hst : L2.start N (.ref a :: ws) = some (.ref a) :: (ws.map some ++ List.replicate (N.length - ps.length) none) := by
    unfold L2.start
    rw [List.length_cons, hlen]
    rfl
  refine ⟨O1 a, G, some (.own o) :: (ds.map (fun d => some (.val d)) ++ List.replicate (N.length - ps.length) none), ?_, ?_⟩
  · rw [hst]
    refine ⟨hold.sub, hold.ntb, hold.oin, hold.tab, fun p hp => ?_, ?_, fun i sl hi => ?_, fun i j o1 o2 a' hij hi hj => ?_⟩
    · have : p = (0, a) := by simpa using hp
      subst this
      rfl
    · simp only [List.length_cons, List.length_append, List.length_map, List.length_replicate, ← rs.length]
    · cases i with
      | zero =>
        cases hi
        obtain ⟨v, e, q⟩ := hold.slot 0 _ rfl
        exact ⟨v, e, q⟩
      | succ i =>
        simp only [List.getElem?_cons_succ] at hi ⊢
        obtain ⟨d, v, rfl, e, r⟩ := slots_of rs i sl hi
        exact ⟨v, e, r⟩
    · exfalso
      cases i with
      | zero =>
        cases j with
        | zero => exact hij rfl
        | succ j =>
          simp only [List.getElem?_cons_succ] at hj
          obtain ⟨d, v, e, _⟩ := slots_of rs j _ hj
          cases e
      | succ i =>
        simp only [List.getElem?_cons_succ] at hi
        obtain ⟨d, v, e, _⟩ := slots_of rs i _ hi
        cases e
  · rw [hF] at h
    unfold ofBodyL at h
    have fin : ∀ {ρ : Ev} {r : Sl}, (match lentOf ρ r with
        | .ok r s => ∀ v G' H', Tr (O1 a) G H G' H' → Hold ⟨P, w, K⟩ ⟨tabs, [(0, a)]⟩ (O1 a) G' [some (.ref a)] H' [some s] → RepR ⟨P, w, K⟩ H G' H' v r → Q v H'
        | _ => False) → ∀ v O' G' σ' H', (∀ x, O' x → O1 a x ∨ H x = none) → Tr (O1 a) G H G' H' → Hold ⟨P, w, K⟩ ⟨tabs, [(0, a)]⟩ O' G' σ' H' ρ → RepR ⟨P, w, K⟩ H G' H' v r → Q v H' := by
      intro ρ r h v O' G' σ' H' ho tr hd rr
      unfold lentOf at h
      cases q : ρ[0]? with
      | none => rw [q] at h; exact h.elim
      | some os =>
      cases os with
      | none => rw [q] at h; exact h.elim
      | some sl =>
      rw [q] at h
      refine h v G' H' tr ?_ rr
      have l0 : σ'[0]? = some (some (.ref a)) := hd.lnt (0, a) (by simp)
      obtain ⟨v', e, q1⟩ := hd.slot 0 sl q
      rw [l0] at e; cases e
      refine ⟨hd.sub, hd.ntb, fun x hx e => ?_, hd.tab, fun p hp => ?_, rfl, fun i s hi => ?_, fun i j o1 o2 a' hij hi hj => ?_⟩
      · have hx : x = a := hx
        subst hx
        exact hold.oin x rfl (tr.d x e)
      · have : p = (0, a) := by simpa using hp
        subst this
        rfl
      · cases i with
        | zero =>
          cases hi
          refine ⟨_, rfl, ?_⟩
          cases sl with
          | val d => exact q1
          | own o' => obtain ⟨a', e1, _, h2⟩ := q1; cases e1; exact ⟨a, rfl, rfl, h2⟩
        | succ i => simp at hi
      · cases i with
        | zero => cases j with
          | zero => exact (hij rfl).elim
          | succ j => simp at hj
        | succ i => simp at hi
    cases q : m (some (.own o) :: (ds.map (fun d => some (.val d)) ++ List.replicate (N.length - ps.length) none)) with
    | bad => rw [q] at h; exact h.elim
    | bk ρ => rw [q] at h; exact h.elim
    | ct ρ => rw [q] at h; exact h.elim
    | exc e ρ => rw [q] at h; exact h.elim
    | nx ρ =>
      rw [q] at h
      exact fun O' G' σ' H' ho tr hd => fin h .non O' G' σ' H' ho tr hd .non
    | rt r ρ =>
      rw [q] at h
      refine fun v O' G' σ' H' ho tr hd rr => fin h v O' G' σ' H' ho tr hd ?_
      cases r with
      | val d => exact rr
      | own o' => obtain ⟨a', e, h1, h2⟩ := rr; exact ⟨a', e, h1.elim id fun z => absurd z.1 (by simp), h2⟩
/-- a def of the module with its code -/
structure DefC (K : PySem.W.Frag) (mg : Str → Option Value) (x : Str) (st : Stmt) (cdv : Value) (f : Addr) (fd : FuncData) : Prop where
  ex : ∃ (oc : Value) (od : Option Addr) (kV doc pm : Value) (an : Option Addr) (ct : Value) (osl : Array (Option Value)),
    fd = PySem.W.fnOf x x (fnArgs st) (fnBody st) (fnScope st) .none kV doc pm an cdv ct ∧ K.lookup f = some ⟨oc, od, .func fd, osl⟩ ∧ PySem.W.codeIn K cdv x = true
  mgf : mg x = some (.ref f)
  kp : PySem.W.keepIn K (.ref f) = true
theorem DefC.binds {x : Str} {st : Stmt} {cdv : Value} {f : Addr} {fd : FuncData} {ps : List Str} (D : DefC K mg x st cdv f fd)
    (h : ∀ (kV doc pm : Value) (an : Option Addr) (cdv ct : Value) (us : List Value), us.length = ps.length → bindArgs (PySem.W.fnOf x x (fnArgs st) (fnBody st) (fnScope st) .none kV doc pm an cdv ct) ⟨us, []⟩ = pure (ps.zip us)) : L2.Binds K fd ps [] := by
  obtain ⟨oc, od, kV, doc, pm, an, ct, osl, rfl, lk, hcd⟩ := D.ex
  exact .all (h kV doc pm an cdv ct)
/-- a def by its body's semantics -/
theorem cal_fn {x : Str} {st : Stmt} {cdv : Value} {f : Addr} {fd : FuncData} {N ps : List Str} {k : Nat} {m : MS} {F : Fn} (Fd : DefC K mg x st cdv f fd)
    (b : ∀ (kV doc pm : Value) (an : Option Addr) (cdv ct : Value) (us : List Value), us.length = ps.length → bindArgs (PySem.W.fnOf x x (fnArgs st) (fnBody st) (fnScope st) .none kV doc pm an cdv ct) ⟨us, []⟩ = pure (ps.zip us))
    (S : L2.FnScope N ps (fnScope st)) (hF : F = ofBody (N.length - ps.length) m)
    (hb : ∀ (A : Around) (outer : List PySem.Env) (s : Shared) (H : Hp) (E : XK), L2.Room k (A.deeper (envOfC x (fnScope st) s.heap.objs.size f cdv)) →
      PSs (cxOf C8.CX0 P w K mg base N x (fnScope st) f cdv A outer s H E).nox (fnBody st) (dS ⟨P, w, K⟩ ⟨tabs, []⟩ W0 m)) : Cal P w K mg base (k + 1) x (dSp ⟨P, w, K⟩ tabs ps.length F) [] := by
  have hbi := Fd.binds b
  obtain ⟨oc, od, kV, doc, pm, an, ct, osl, rfl, lk, hcd⟩ := Fd.ex
  refine ⟨f, _, ps, [], fn_of lk hcd S (fun vs H Q E h => h.1) fun A outer s H vs Q E hr h => ⟨_, (hb A outer s H E hr).nox, enter hF h⟩, Fd.mgf, Fd.kp, hbi, .nil⟩
theorem cal_fnL {x : Str} {st : Stmt} {cdv : Value} {f : Addr} {fd : FuncData} {N ps : List Str} {k n : Nat} {m : MS} {F : FnL} (Fd : DefC K mg x st cdv f fd)
    (b : ∀ (kV doc pm : Value) (an : Option Addr) (cdv ct : Value) (us : List Value), us.length = ps.length → bindArgs (PySem.W.fnOf x x (fnArgs st) (fnBody st) (fnScope st) .none kV doc pm an cdv ct) ⟨us, []⟩ = pure (ps.zip us))
    (S : L2.FnScope N ps (fnScope st)) (hn : ps.length = n + 1) (hF : F = ofBodyL (N.length - ps.length) m)
    (hb : ∀ (a : Addr) (A : Around) (outer : List PySem.Env) (s : Shared) (H : Hp) (E : XK), L2.Room k (A.deeper (envOfC x (fnScope st) s.heap.objs.size f cdv)) →
      PSs (cxOf C8.CX0 P w K mg base N x (fnScope st) f cdv A outer s H E).nox (fnBody st) (dS ⟨P, w, K⟩ ⟨tabs, [(0, a)]⟩ W0 m)) : Cal P w K mg base (k + 1) x (dSpL ⟨P, w, K⟩ tabs n F) [] := by
  have hbi := Fd.binds b
  obtain ⟨oc, od, kV, doc, pm, an, ct, osl, rfl, lk, hcd⟩ := Fd.ex
  refine ⟨f, _, ps, [], fn_of lk hcd S (fun vs H Q E h => by rw [hn]; exact h.1) fun A outer s H vs Q E hr h => ?_, Fd.mgf, Fd.kp, hbi, .nil⟩
  obtain ⟨a, q⟩ := enterL hn hF h
  exact ⟨_, (hb a A outer s H E hr).nox, q⟩
/-- a def that promises nothing -/
theorem cal_bad {x : Str} {st : Stmt} {cdv : Value} {f : Addr} {fd : FuncData} {ps : List Str} {k n : Nat} (Fd : DefC K mg x st cdv f fd) (hn : ps.length = n)
    (b : ∀ (kV doc pm : Value) (an : Option Addr) (cdv ct : Value) (us : List Value), us.length = ps.length → bindArgs (PySem.W.fnOf x x (fnArgs st) (fnBody st) (fnScope st) .none kV doc pm an cdv ct) ⟨us, []⟩ = pure (ps.zip us)) : Cal P w K mg base k x (dSp ⟨P, w, K⟩ tabs n fun _ => .bad) [] := by
  have hbi := Fd.binds b
  exact ⟨f, fd, ps, [], ⟨fun vs H Q E h => by rw [hn]; exact h.1, fun A outer s H args us vs Q E hr he hb hv h => by obtain ⟨_, _, _, _, _, h⟩ := h; exact h.elim⟩, Fd.mgf, Fd.kp, hbi, .nil⟩
end

/-! ### calls -/
def sCall (F : Fn) (as : M (List D)) : M Sl := fun ρ => (as ρ).bind fun ds ρ' => match F ds with
  | .ok r => .ok r ρ'
  | _ => .bad
def sCallL (F : FnL) (j : Nat) (as : M (List D)) : M Sl := fun ρ => match ρ[j]? with
  | some (some (.own _)) => (as ρ).bind fun ds ρ' => match ρ'[j]? with
    | some (some (.own o)) => match F o ds with
      | .ok r s => .ok r (ρ'.set j (some s))
      | _ => .bad
    | _ => .bad
  | _ => .bad
section
variable {X : Cx} {T : Fx} {W : WX} {e : Expr} {es : List Expr} {as : M (List D)} {x y : Str} {p p1 pos : Pos} {k j i n : Nat} {F : Fn} {FF : FnL}
theorem pe_fnD (c : Cal X.prog X.w X.K X.mg X.base k x (dSp (cnOf X) T.tabs n F) []) (hr : L2.Room j X.A) (hk : k ≤ j) (hg : Gl X x) (ha : PA X (e :: es) (dA (cnOf X) T W as)) (hn : (e :: es).length = n) (hlen : ∀ ρ ds ρ', as ρ = .ok ds ρ' → ds.length = n)
    (hst : (e :: es).all noStar = true) (hdb : (x == ("__debug__" : Str)) = false := by decide) : PE X (.Call (.Name x p) (e :: es) [] pos) (dT (cnOf X) T W (sCall F as)) := by
  have h2 : noStar e = true ∧ es.all noStar = true := by simpa using hst
  refine impPE (pe_c c hr hk hg ha hdb (starEach_cons h2.1) (any_star h2.2)) fun σ H Q h => ?_
  obtain ⟨O, G, ρ, hold, h⟩ := h
  refine ⟨O, G, ρ, hold, ?_⟩
  unfold sCall at h
  cases q : as ρ with
  | bad => rw [q] at h; exact h
  | exc x ρ' => rw [q] at h; exact h
  | ok ds ρ1 =>
    rw [q] at h
    simp only [Res.bind_ok] at h
    intro vs G1 H1 t1 hold1 rs
    rw [List.append_nil]
    refine ⟨by rw [rs.length]; exact hlen _ _ _ q, G1, ds, hold1.base, rs, ?_⟩
    cases q2 : F ds with
    | bad => rw [q2] at h; exact h
    | exc c => rw [q2] at h; exact h
    | ok r =>
      rw [q2] at h
      exact fun v G2 H2 t2 hb rr => h v G2 H2 (t1.trans' (t2.wider fun _ z => z.elim)) (hold1.call t2 hb) (rr.back t1.d)
theorem pe_fn0D (c : Cal X.prog X.w X.K X.mg X.base k x (dSp (cnOf X) T.tabs 0 F) []) (hr : L2.Room j X.A) (hk : k ≤ j) (hg : Gl X x) (hdb : (x == ("__debug__" : Str)) = false := by decide) : PE X (.Call (.Name x p) [] [] pos) (dT (cnOf X) T W (sCall F aN)) := by
  obtain ⟨f, fd, ps, ds0, Fo, hm, kp, b, d⟩ := c.ex
  refine impPE (pe_call0 Fo (hr.mono hk) hg hm kp b d (C8.pass0 (E := C8.E0)) hdb) fun σ H Q h => ?_
  obtain ⟨O, G, ρ, hold, h⟩ := h
  unfold sCall aN at h
  simp only [Res.bind_ok] at h
  refine ⟨rfl, G, [], hold.base, .nil, ?_⟩
  cases q2 : F [] with
  | bad => rw [q2] at h; exact h
  | exc c => rw [q2] at h; exact h
  | ok r =>
    rw [q2] at h
    exact fun v G2 H2 t2 hb rr => h v G2 H2 (t2.wider fun _ z => z.elim) (hold.call t2 hb) rr
theorem pe_fnLD (c : Cal X.prog X.w X.K X.mg X.base k x (dSpL (cnOf X) T.tabs n FF) []) (hr : L2.Room j X.A) (hk : k ≤ j) (hg : Gl X x) (hv : PE X (.Name y p1) (tVar i)) (ha : PA X es (dA (cnOf X) T W as)) (hlen : ∀ ρ ds ρ', as ρ = .ok ds ρ' → ds.length = n)
    (hst : es.all noStar = true) (hdb : (x == ("__debug__" : Str)) = false := by decide) : PE X (.Call (.Name x p) (.Name y p1 :: es) [] pos) (dT (cnOf X) T W (sCallL FF i as)) := by
  refine impPE (pe_c c hr hk hg (pa_cons hv ha rfl) hdb rfl (any_star hst)) fun σ H Q h => ?_
  obtain ⟨O, G, ρ, hold, h⟩ := h
  unfold sCallL at h
  cases q0 : ρ[i]? with
  | none => rw [q0] at h; exact h.elim
  | some os =>
  cases os with
  | none => rw [q0] at h; exact h.elim
  | some sl =>
  cases sl with
  | val d => rw [q0] at h; exact h.elim
  | own o0 =>
  rw [q0] at h
  simp only at h
  obtain ⟨a, ea, _, _, _⟩ := hold.at_own q0
  refine ⟨.ref a, ea, O, G, ρ, hold, ?_⟩
  cases q : as ρ with
  | bad => rw [q] at h; exact h
  | exc x ρ' => rw [q] at h; exact h
  | ok ds ρ1 =>
    rw [q] at h
    simp only [Res.bind_ok] at h
    intro vs G1 H1 t1 hold1 rs
    cases q1 : ρ1[i]? with
    | none => rw [q1] at h; exact h.elim
    | some os =>
    cases os with
    | none => rw [q1] at h; exact h.elim
    | some sl =>
    cases sl with
    | val d => rw [q1] at h; exact h.elim
    | own o =>
    rw [q1] at h
    simp only at h
    obtain ⟨a', ea', hO, hg1, ob⟩ := hold1.at_own q1
    rw [ea] at ea'; cases ea'
    show dSpL _ _ _ _ ((V.ref a :: vs) ++ []) H1 Q C8.E0
    rw [List.append_nil]
    refine ⟨by rw [List.length_cons, rs.length, hlen _ _ _ q], a, vs, G1, o, ds, rfl, ?_, rs, ?_⟩
    · refine ⟨hold1.sub, hold1.ntb, fun x hx => ?_, hold1.tab, fun p hp => ?_, rfl, fun j s hj => ?_, fun j l o1 o2 a' hjl hj hl => ?_⟩
      · have hx : x = a := hx
        subst hx
        exact hold1.oin x hO
      · have : p = (0, a) := by simpa using hp
        subst this
        rfl
      · cases j with
        | zero => cases hj; exact ⟨_, rfl, a, rfl, rfl, hg1, ob⟩
        | succ j => simp at hj
      · cases j with
        | zero => cases l with
          | zero => exact (hjl rfl).elim
          | succ l => simp at hl
        | succ j => simp at hj
    · cases q2 : FF o ds with
      | bad => rw [q2] at h; exact h
      | exc c => rw [q2] at h; exact h
      | ok r s =>
        rw [q2] at h
        exact fun v G2 H2 t2 hb rr => h v G2 H2 (t1.trans' (t2.wider fun x z => by rw [show x = a from z]; exact hO)) (hold1.callL q1 ea t2 hb) (rr.back t1.d)
end
end Sd
set_option Elab.async false
set_option linter.all false
set_option maxRecDepth 100000
set_option maxHeartbeats 4000000
set_option autoImplicit false
/-! Sd: iterables. -/
namespace Sd
open PySem PySem.Spec PyProof.Rows L2
open RZ (ItzT pi_zipA)

section
variable {c : Cn} {G0 : Hp}
theorem io_list {a : Addr} {vs : List V} {ds : List D} (sq : SqL c.K G0 a vs) (rs : Reps c G0 vs ds) : IterOk c (Itl c.K a) G0 ds where
  go := fun G H i s1 s2 hi => by
    obtain ⟨v, e, _⟩ := rs.get i (List.getElem?_eq_getElem hi)
    exact ⟨vs, v, (s1.trans s2).seq sq, e⟩
  yld := fun G H i x H' s1 s2 nt hi' h => by
    obtain ⟨rfl, h⟩ := h
    have e := h vs ((s1.trans s2).seq sq)
    obtain ⟨d, e2, r⟩ := rs.getV i e
    exact ⟨d, G, e2, TrN.refl s2 nt, r.mono s1⟩
  stop := fun G H i s1 s2 hi => ⟨vs, (s1.trans s2).seq sq, by rw [rs.length]; exact hi⟩
theorem io_tup {a : Addr} {vs : List V} {ds : List D} (sq : SqT c.K G0 a vs) (rs : Reps c G0 vs ds) : IterOk c (Itt c.K a) G0 ds where
  go := fun G H i s1 s2 hi => by
    obtain ⟨v, e, _⟩ := rs.get i (List.getElem?_eq_getElem hi)
    exact ⟨vs, v, sqt_mono (s1.trans s2) sq, e⟩
  yld := fun G H i x H' s1 s2 nt hi' h => by
    obtain ⟨rfl, h⟩ := h
    have e := h vs (sqt_mono (s1.trans s2) sq)
    obtain ⟨d, e2, r⟩ := rs.getV i e
    exact ⟨d, G, e2, TrN.refl s2 nt, r.mono s1⟩
  stop := fun G H i s1 s2 hi => ⟨vs, sqt_mono (s1.trans s2) sq, by rw [rs.length]; exact hi⟩
def strItems (x : Str) : List D := x.cps.toList.map fun n => .str ⟨#[n]⟩
theorem io_str {x : Str} : IterOk c (Its x) G0 (strItems x) where
  go := fun G H i s1 s2 hi => by
    show i < x.cps.size
    simpa [strItems] using hi
  yld := fun G H i v H' s1 s2 nt hi' h => by
    obtain ⟨rfl, n, e, rfl⟩ := h
    refine ⟨.str ⟨#[n]⟩, G, ?_, TrN.refl s2 nt, .str _⟩
    unfold strItems
    rw [List.getElem?_map, Array.getElem?_toList, e]
    rfl
  stop := fun G H i s1 s2 hi => by
    show x.cps.size ≤ i
    simpa [strItems] using hi
def rangeD (lo : Int) (n : Nat) : List D := (List.range n).map fun (i : Nat) => .int (lo + (i : Int))
theorem rangeD_length (lo : Int) (n : Nat) : (rangeD lo n).length = n := by simp [rangeD]
theorem rangeD_get {lo : Int} {n i : Nat} (h : i < n) : (rangeD lo n)[i]? = some (.int (lo + (i : Int))) := by simp [rangeD, h]
theorem io_range {lo : Int} {n : Nat} : IterOk c (Itr lo n) G0 (rangeD lo n) where
  go := fun G H i s1 s2 hi => by
    rw [rangeD_length] at hi
    exact hi
  yld := fun G H i v H' s1 s2 nt hi h => by
    obtain ⟨rfl, rfl⟩ := h
    rw [rangeD_length] at hi
    exact ⟨_, G, rangeD_get hi, TrN.refl s2 nt, .int _⟩
  stop := fun G H i s1 s2 hi => by
    rw [rangeD_length] at hi
    exact hi
def range3D (lo st : Int) (n : Nat) : List D := (List.range n).map fun (i : Nat) => .int (lo + (i : Int) * st)
theorem io_range3 {lo st : Int} {n : Nat} : IterOk c (Itc lo st n) G0 (range3D lo st n) where
  go := fun G H i s1 s2 hi => by
    rw [show (range3D lo st n).length = n by simp [range3D]] at hi
    exact hi
  yld := fun G H i v H' s1 s2 nt hi h => by
    obtain ⟨rfl, rfl⟩ := h
    rw [show (range3D lo st n).length = n by simp [range3D]] at hi
    exact ⟨_, G, by simp [range3D, hi], TrN.refl s2 nt, .int _⟩
  stop := fun G H i s1 s2 hi => by
    rw [show (range3D lo st n).length = n by simp [range3D]] at hi
    exact hi
def zipD (xs ys : List D) : List D := List.zipWith (fun x y => .tuple [x, y]) xs ys
theorem zipD_length (xs ys : List D) : (zipD xs ys).length = min xs.length ys.length := by simp [zipD]
theorem zipD_get {xs ys : List D} {i : Nat} {x y : D} (h1 : xs[i]? = some x) (h2 : ys[i]? = some y) : (zipD xs ys)[i]? = some (.tuple [x, y]) := by
  unfold zipD
  rw [List.getElem?_zipWith, h1, h2]
theorem yld_pair {G H : Hp} {Tp : Addr} {x y : V} {d e : D} (s2 : Same G H) (nt : ∀ a ps, G a ≠ some (.tbl ps)) (hT : H Tp = none) (r1 : Rep c G x d) (r2 : Rep c G y e) : ∃ G', TrN G H G' (upd H Tp (.tup [x, y])) ∧ Rep c G' (.ref Tp) (.tuple [d, e]) := by
  have tn := TrN.new (o := .tup [x, y]) s2 nt hT (fun ps z => by cases z)
  exact ⟨_, tn, .tup (.inl (.inl upd_same)) (.cons (r1.mono tn.g) (.cons (r2.mono tn.g) .nil))⟩
theorem io_zip {a b : Addr} {vs ws : List V} {ds es : List D} (sq : SqL c.K G0 a vs) (rs : Reps c G0 vs ds) (sq2 : SqL c.K G0 b ws) (rs2 : Reps c G0 ws es) : IterOk c (Itz c.K a b) G0 (zipD ds es) where
  go := fun G H i s1 s2 hi => by
    rw [zipD_length] at hi
    obtain ⟨v, e, _⟩ := rs.get i (List.getElem?_eq_getElem (show i < ds.length by omega))
    obtain ⟨w, e2, _⟩ := rs2.get i (List.getElem?_eq_getElem (show i < es.length by omega))
    exact ⟨vs, ws, v, w, (s1.trans s2).seq sq, (s1.trans s2).seq sq2, e, e2⟩
  yld := fun G H i x H' s1 s2 nt hi h => by
    obtain ⟨Tp, y, z, rfl, hT, rfl, h1, h2⟩ := h
    obtain ⟨d, e1, r1⟩ := rs.getV i (h1 vs ((s1.trans s2).seq sq))
    obtain ⟨e, e2, r2⟩ := rs2.getV i (h2 ws ((s1.trans s2).seq sq2))
    obtain ⟨G', tn, r⟩ := yld_pair s2 nt hT (r1.mono s1) (r2.mono s1)
    exact ⟨_, G', zipD_get e1 e2, tn, r⟩
  stop := fun G H i s1 s2 hi => by
    rw [zipD_length, ← rs.length, ← rs2.length] at hi
    exact ⟨vs, ws, (s1.trans s2).seq sq, (s1.trans s2).seq sq2, by omega⟩
theorem io_zipT {a b : Addr} {vs ws : List V} {ds es : List D} (sq : SqT c.K G0 a vs) (rs : Reps c G0 vs ds) (sq2 : SqT c.K G0 b ws) (rs2 : Reps c G0 ws es) : IterOk c (ItzT c.K a b) G0 (zipD ds es) where
  go := fun G H i s1 s2 hi => by
    rw [zipD_length] at hi
    obtain ⟨v, e, _⟩ := rs.get i (List.getElem?_eq_getElem (show i < ds.length by omega))
    obtain ⟨w, e2, _⟩ := rs2.get i (List.getElem?_eq_getElem (show i < es.length by omega))
    exact ⟨vs, ws, v, w, sqt_mono (s1.trans s2) sq, sqt_mono (s1.trans s2) sq2, e, e2⟩
  yld := fun G H i x H' s1 s2 nt hi h => by
    obtain ⟨Tp, y, z, rfl, hT, rfl, h1, h2⟩ := h
    obtain ⟨d, e1, r1⟩ := rs.getV i (h1 vs (sqt_mono (s1.trans s2) sq))
    obtain ⟨e, e2, r2⟩ := rs2.getV i (h2 ws (sqt_mono (s1.trans s2) sq2))
    obtain ⟨G', tn, r⟩ := yld_pair s2 nt hT (r1.mono s1) (r2.mono s1)
    exact ⟨_, G', zipD_get e1 e2, tn, r⟩
  stop := fun G H i s1 s2 hi => by
    rw [zipD_length, ← rs.length, ← rs2.length] at hi
    exact ⟨vs, ws, sqt_mono (s1.trans s2) sq, sqt_mono (s1.trans s2) sq2, by omega⟩
def enumD (xs : List D) : List D := xs.zipIdx.map fun p => .tuple [.int (p.2 : Int), p.1]
theorem io_enum {a : Addr} {vs : List V} {ds : List D} (sq : SqL c.K G0 a vs) (rs : Reps c G0 vs ds) : IterOk c (Ite c.K a) G0 (enumD ds) where
  go := fun G H i s1 s2 hi => by
    rw [show (enumD ds).length = ds.length by simp [enumD]] at hi
    obtain ⟨v, e, _⟩ := rs.get i (List.getElem?_eq_getElem hi)
    exact ⟨vs, v, (s1.trans s2).seq sq, e⟩
  yld := fun G H i x H' s1 s2 nt hi h => by
    obtain ⟨Tp, y, rfl, hT, rfl, h1⟩ := h
    obtain ⟨d, e1, r1⟩ := rs.getV i (h1 vs ((s1.trans s2).seq sq))
    obtain ⟨G', tn, r⟩ := yld_pair s2 nt hT (Rep.int (i : Int)) (r1.mono s1)
    exact ⟨_, G', by simp [enumD, e1], tn, r⟩
  stop := fun G H i s1 s2 hi => by
    rw [show (enumD ds).length = ds.length by simp [enumD], ← rs.length] at hi
    exact ⟨vs, (s1.trans s2).seq sq, hi⟩
end

/-! ### expressions that are gone through -/
def iterD : D → Option (List D)
  | .list xs => some xs
  | .tuple xs => some xs
  | .str x => some (strItems x)
  | _ => none
def sIt (f : M Sl) : M (List D) := fun ρ => (f ρ).bind fun r ρ' => match iterD r.frz with
  | some xs => .ok xs ρ'
  | none => .bad
def range1Of : List D → Option (List D)
  | [.int j] => if -(2 ^ 62) ≤ j ∧ j < 2 ^ 62 then some (rangeD 0 j.toNat) else none
  | _ => none
def range2Of : List D → Option (List D)
  | [.int i, .int j] => if -(2 ^ 62) ≤ i ∧ i < 2 ^ 62 ∧ -(2 ^ 62) ≤ j ∧ j < 2 ^ 62 then some (rangeD i (j - i).toNat) else none
  | _ => none
def sRange1 (as : M (List D)) : M (List D) := fun ρ => (as ρ).bind fun ds ρ' => Res.ofO (range1Of ds) ρ'
def sRange2 (as : M (List D)) : M (List D) := fun ρ => (as ρ).bind fun ds ρ' => Res.ofO (range2Of ds) ρ'
def zipOf : List D → Option (List D)
  | [.list xs, .list ys] => some (zipD xs ys)
  | [.tuple xs, .tuple ys] => some (zipD xs ys)
  | _ => none
def sZip (as : M (List D)) : M (List D) := fun ρ => (as ρ).bind fun ds ρ' => Res.ofO (zipOf ds) ρ'
def enumOf : List D → Option (List D)
  | [.list xs] => some (enumD xs)
  | _ => none
def sEnum (as : M (List D)) : M (List D) := fun ρ => (as ρ).bind fun ds ρ' => Res.ofO (enumOf ds) ρ'
section
variable {X : Cx} {T : Fx} {W : WX} {e e2 tg : Expr} {es : List Expr} {f g : M Sl} {as : M (List D)} {p pos tpos : Pos} {elts : List Expr} {kk : Nat}
theorem pi_D (he : PE X e (dT (cnOf X) T W f)) : PI X tg e (dI (cnOf X) T W (sIt f)) := by
  refine ⟨fun pins s σ H R I h => ?_⟩
  obtain ⟨O, G, ρ, hold, h⟩ := h
  unfold sIt at h
  cases q : f ρ with
  | bad => rw [q] at h; exact h.elim
  | exc x ρ' =>
    rw [q] at h
    exact (pi_list (tg := tg) he).run pins s σ H R I ⟨O, G, ρ, hold, by rw [q]; exact h⟩
  | ok r ρ1 =>
    rw [q] at h
    simp only [Res.bind_ok] at h
    cases qd : r.frz with
    | list ds =>
      rw [qd] at h
      refine (pi_list (tg := tg) he).run pins s σ H R I ⟨O, G, ρ, hold, ?_⟩
      rw [q]
      intro v G1 H1 t1 hold1 rr
      obtain ⟨G2, s2, t2, hold2, r2⟩ := hold1.frzR hold.oin t1 rr
      rw [qd] at r2
      cases r2 with
      | lst sq rs => exact ⟨_, rfl, ⟨_, hold2.sub |> fun z => Same.seq z sq⟩, h _ G2 H1 t2 hold2 (io_list sq rs)⟩
    | tuple ds =>
      rw [qd] at h
      refine (pi_tup (tg := tg) he).run pins s σ H R I ⟨O, G, ρ, hold, ?_⟩
      rw [q]
      intro v G1 H1 t1 hold1 rr
      obtain ⟨G2, s2, t2, hold2, r2⟩ := hold1.frzR hold.oin t1 rr
      rw [qd] at r2
      cases r2 with
      | tup sq rs => exact ⟨_, rfl, ⟨_, sqt_mono hold2.sub sq⟩, h _ G2 H1 t2 hold2 (io_tup sq rs)⟩
    | str x =>
      rw [qd] at h
      refine (pi_str (tg := tg) he).run pins s σ H R I ⟨O, G, ρ, hold, ?_⟩
      rw [q]
      intro v G1 H1 t1 hold1 rr
      obtain ⟨G2, s2, t2, hold2, r2⟩ := hold1.frzR hold.oin t1 rr
      rw [qd] at r2
      cases r2
      exact ⟨_, rfl, h _ G2 H1 t2 hold2 io_str⟩
    | _ => rw [qd] at h; exact h.elim
theorem imp_as {c : Cn} {σ : St} {H : Hp} {F : List D → Option (List D)} {R : It → Hp → Prop} {K : List V → Hp → Prop} (h : dI c T W (fun ρ => (as ρ).bind fun ds ρ' => Res.ofO (F ds) ρ') σ H R)
    (k : ∀ G vs ds items H1, F ds = some items → Reps c G vs ds → Same G H1 → (∀ J, IterOk c J G items → R J H1) → K vs H1) : dA c T W as σ H K := by
  obtain ⟨O, G, ρ, hold, h⟩ := h
  dsimp only at h
  refine ⟨O, G, ρ, hold, ?_⟩
  cases q : as ρ with
  | bad => rw [q] at h; exact h.elim
  | exc x ρ' => rw [q] at h; exact h
  | ok ds ρ1 =>
    rw [q] at h
    simp only [Res.bind_ok] at h
    intro vs G1 H1 t1 hold1 rs
    cases q2 : F ds with
    | none => rw [q2] at h; exact h.elim
    | some items =>
      rw [q2] at h
      exact k G1 vs ds items H1 q2 rs hold1.sub fun J io => h J G1 H1 t1 hold1 io
theorem pi_range1D {a : Expr} (hg : Gl X "range") (hm : X.mg "range" = none) (ha : PA X [a] (dA (cnOf X) T W as)) (hs : noStar a = true) : PI X tg (.Call (.Name "range" p) [a] [] pos) (dI (cnOf X) T W (sRange1 as)) :=
  impPI (pi_range1 hg hm ha (starEach_cons hs)) fun σ H R h => imp_as h fun G vs ds items H1 hF rs _ k => by
    unfold range1Of at hF
    split at hF
    · rename_i j
      split at hF
      · rename_i hz
        cases hF
        cases rs with
        | cons a b =>
          cases b; cases a
          exact ⟨j, rfl, hz.1, hz.2, k _ io_range⟩
      · cases hF
    · cases hF
theorem pi_range2D {a b : Expr} (hg : Gl X "range") (hm : X.mg "range" = none) (ha : PA X [a, b] (dA (cnOf X) T W as)) (hs : noStar a = true) (hs2 : noStar b = true) : PI X tg (.Call (.Name "range" p) [a, b] [] pos) (dI (cnOf X) T W (sRange2 as)) :=
  impPI (pi_range2 hg hm ha (by rw [starEach_cons hs, starEach_cons hs2]; rfl) (by rw [starEach_cons hs2]; rfl)) fun σ H R h => imp_as h fun G vs ds items H1 hF rs _ k => by
    unfold range2Of at hF
    split at hF
    · rename_i i j
      split at hF
      · rename_i hz
        cases hF
        cases rs with
        | cons a b =>
          cases b with
          | cons b c =>
            cases c; cases a; cases b
            exact ⟨i, j, rfl, hz, k _ io_range⟩
      · cases hF
    · cases hF
theorem pi_zipD (hg : Gl X "zip") (hm : X.mg "zip" = none) (ha : PA X [e, e2] (dA (cnOf X) T W as)) (hs : noStar e = true) (hs2 : noStar e2 = true) : PI X (.Tuple elts kk tpos) (.Call (.Name "zip" p) [e, e2] [] pos) (dI (cnOf X) T W (sZip as)) :=
  impPI (pi_zipA hg hm ha (starEach_cons hs) (any_star (es := [e2]) (by simp [hs2]))) fun σ H R h => imp_as h fun G vs ds items H1 hF rs sub k => by
    unfold zipOf at hF
    split at hF
    · cases hF
      cases rs with
      | cons a b =>
        cases b with
        | cons b c =>
          cases c
          cases a with
          | lst q1 r1 => cases b with
            | lst q2 r2 => exact ⟨_, _, _, _, rfl, .inl ⟨Same.seq sub q1, Same.seq sub q2, k _ (io_zip q1 r1 q2 r2)⟩⟩
    · cases hF
      cases rs with
      | cons a b =>
        cases b with
        | cons b c =>
          cases c
          cases a with
          | tup q1 r1 => cases b with
            | tup q2 r2 => exact ⟨_, _, _, _, rfl, .inr ⟨sqt_mono sub q1, sqt_mono sub q2, k _ (io_zipT q1 r1 q2 r2)⟩⟩
    · cases hF
theorem pi_enumD (hg : Gl X "enumerate") (hm : X.mg "enumerate" = none) (ha : PA X [e] (dA (cnOf X) T W as)) (hs : noStar e = true) : PI X (.Tuple elts kk tpos) (.Call (.Name "enumerate" p) [e] [] pos) (dI (cnOf X) T W (sEnum as)) :=
  impPI (pi_enum hg hm ha (starEach_cons hs)) fun σ H R h => imp_as h fun G vs ds items H1 hF rs sub k => by
    unfold enumOf at hF
    split at hF
    · cases hF
      cases rs with
      | cons a b =>
        cases b
        cases a with
        | lst q1 r1 => exact ⟨_, _, rfl, Same.seq sub q1, k _ (io_enum q1 r1)⟩
    · cases hF
/-! the items of a display are gone through as a list is -/
end

/-! ### methods of lists -/
abbrev LM := List D → List D → Option (D × List D)
def sLM (op : LM) (i : Nat) (as : M (List D)) : M Sl := fun ρ => match ρ[i]? with
  | some (some (.own (.lst _))) => (as ρ).bind fun ds ρ1 => match ρ1[i]? with
    | some (some (.own (.lst xs))) => match op xs ds with
      | some (r, ys) => .ok (.val r) (ρ1.set i (some (.own (.lst ys))))
      | none => .bad
    | _ => .bad
  | _ => .bad
def LMOk (c : Cn) (r : V → List V → Hp → VK → Prop) (op : LM) : Prop := ∀ (G H : Hp) (l : Addr) (vs ws : List V) (xs ds : List D) (res : D) (ys : List D) (Q : VK), Same G H → G l = none → H l = some (.lst vs) → Reps c G vs xs → Reps c G ws ds → op xs ds = some (res, ys) →
  (∀ v vs', Reps c G vs' ys → Rep c G v res → Q v (upd H l (.lst vs'))) → r (.ref l) ws H Q
theorem Hold.writeO {c : Cn} {T : Fx} {O : Addr → Prop} {G H : Hp} {σ : St} {ρ : Ev} {i : Nat} {a : Addr} {o o' : Ob} {u : HO} (h : Hold c T O G σ H ρ) (hi : ρ[i]? = some (some (.own o))) (ha : σ[i]? = some (some (.ref a))) (q : ObAt c G (upd H a u) a o') :
    Hold c T O G σ (upd H a u) (ρ.set i (some (.own o'))) ∧ Tr O G H G (upd H a u) := by
  obtain ⟨a', e1, hO, hg, q0⟩ := h.at_own hi
  rw [ha] at e1; cases e1
  obtain ⟨u0, hu0, ht0, _⟩ := q0.there
  refine ⟨⟨fun b v e => ?_, h.ntb, fun b hb e => ?_, fun p hp => ?_, h.lnt, by rw [List.length_set]; exact h.len, fun j s hj => ?_, fun j l o1 o2 b hjl hj hl hx hx2 => ?_⟩, Tr.write hO hu0 ht0⟩
  · rw [upd_ne (fun z => by rw [z, hg] at e; cases e)]
    exact h.sub b v e
  · by_cases z : b = a
    · rw [z, upd_same] at e; cases e
    · rw [upd_ne z] at e; exact h.oin b hb e
  · obtain ⟨ps, e, q⟩ := h.tab p hp
    exact ⟨ps, by rw [upd_ne (fun z => by rw [z, hu0] at e; exact ht0 ps (Option.some.inj e))]; exact e, q⟩
  · rcases set_some_of hj with ⟨rfl, hs⟩ | ⟨hne, hj⟩
    · cases hs
      exact ⟨_, ha, a, rfl, hO, hg, q⟩
    · obtain ⟨v, e, r⟩ := h.slot j s hj
      refine ⟨v, e, ?_⟩
      cases s with
      | val d => exact r
      | own o1 =>
        obtain ⟨b, rfl, h1, h2, r⟩ := r
        exact ⟨b, rfl, h1, h2, r.mono (fun _ _ z => z) (upd_ne fun z => by subst z; exact h.apart i j o o1 b (Ne.symm hne) hi hj ha e)⟩
  · rcases set_some_of hj with ⟨rfl, hs⟩ | ⟨hne, hj⟩
    · rcases set_some_of hl with ⟨rfl, hs2⟩ | ⟨hne2, hl⟩
      · exact hjl rfl
      · exact h.apart j l o o2 b hjl hi hl hx hx2
    · rcases set_some_of hl with ⟨rfl, hs2⟩ | ⟨hne2, hl⟩
      · exact h.apart j l o1 o b hjl ‹ρ[j]? = some (some (Sl.own o1))› hi hx hx2
      · exact h.apart j l o1 o2 b hjl hj hl hx hx2
theorem imp_lm {c : Cn} {T : Fx} {W : WX} {op : LM} {i : Nat} {as : M (List D)} {r : V → List V → Hp → VK → Prop} (hop : LMOk c r op) {σ : St} {H : Hp} {Q : VK} (h : dT c T W (sLM op i as) σ H Q) :
    tVar i σ H fun x H1 => tyV c.K "list" x H1 ∧ dA c T W as σ H1 fun xs H2 => r x xs H2 Q := by
  obtain ⟨O, G, ρ, hold, h⟩ := h
  unfold sLM at h
  cases q0 : ρ[i]? with
  | none => rw [q0] at h; exact h.elim
  | some os =>
  cases os with
  | none => rw [q0] at h; exact h.elim
  | some sl =>
  cases sl with
  | val d => rw [q0] at h; exact h.elim
  | own o0 =>
  cases o0 with
  | dct _ => rw [q0] at h; exact h.elim
  | lst x0 =>
  rw [q0] at h
  simp only at h
  obtain ⟨a, ea, _, _, v0, hv0, _⟩ := hold.at_own q0
  refine ⟨.ref a, ea, .inl ⟨rfl, _, .of hv0⟩, O, G, ρ, hold, ?_⟩
  cases q : as ρ with
  | bad => rw [q] at h; exact h
  | exc x ρ' => rw [q] at h; exact h
  | ok ds ρ1 =>
    rw [q] at h
    simp only [Res.bind_ok] at h
    intro ws G1 H1 t1 hold1 rs
    cases q1 : ρ1[i]? with
    | none => rw [q1] at h; exact h.elim
    | some os =>
    cases os with
    | none => rw [q1] at h; exact h.elim
    | some sl =>
    cases sl with
    | val d => rw [q1] at h; exact h.elim
    | own o =>
    cases o with
    | dct _ => rw [q1] at h; exact h.elim
    | lst xs =>
    rw [q1] at h
    simp only at h
    cases q2 : op xs ds with
    | none => rw [q2] at h; exact h.elim
    | some ry =>
    obtain ⟨res, ys⟩ := ry
    rw [q2] at h
    simp only at h
    obtain ⟨a', ea', hO, hg1, vs, hvs, rv⟩ := hold1.at_own q1
    rw [ea] at ea'; cases ea'
    refine hop G1 H1 a vs ws xs ds res ys Q hold1.sub hg1 hvs rv rs q2 fun v vs' rv' rr => ?_
    obtain ⟨h2, t2⟩ := hold1.writeO q1 ea (u := .lst vs') (o' := .lst ys) ⟨vs', upd_same, rv'⟩
    exact h v G1 _ (t1.trans' t2) h2 rr
def opAppend : LM := fun xs ds => match ds with
  | [d] => if xs.length < sizeLine then some (.none, xs ++ [d]) else none
  | _ => none
def opExtend : LM := fun xs ds => match ds with
  | [.list ys] => if xs.length + ys.length ≤ sizeLine then some (.none, xs ++ ys) else none
  | _ => none
def opPop : LM := fun xs ds => match ds with
  | [] => xs.getLast?.map fun d => (d, xs.dropLast)
  | _ => none
theorem lm_append {c : Cn} : LMOk c rAppend opAppend := by
  intro G H l vs ws xs ds res ys Q sub hg hv rv rw_ ho k
  unfold opAppend at ho
  split at ho
  · split at ho
    · rename_i hz
      cases ho
      cases rw_ with
      | cons a b => cases b; exact ⟨l, vs, _, rfl, rfl, hv, by rw [rv.length]; exact hz, k _ _ (rv.append (.cons a .nil)) .non⟩
    · cases ho
  · cases ho
theorem lm_pop {c : Cn} : LMOk c rPop opPop := by
  intro G H l vs ws xs ds res ys Q sub hg hv rv rw_ ho k
  unfold opPop at ho
  split at ho
  · cases rw_
    cases q : xs.getLast? with
    | none => rw [q] at ho; cases ho
    | some d =>
      rw [q] at ho
      cases ho
      rw [List.getLast?_eq_getElem?] at q
      obtain ⟨v, e, r⟩ := rv.get _ q
      exact ⟨l, vs, v, rfl, rfl, hv, by rw [rv.length]; exact e, k _ _ rv.dropLast r⟩
  · cases ho
section
variable {X : Cx} {T : Fx} {W : WX} {e : Expr} {es : List Expr} {as : M (List D)} {i : Nat} {y : Str} {p1 apos pos : Pos}
/-- list.extend(another list of any kind) -/
theorem list_extendW (l : Addr) (items : Array Value) (n : Nat) (b : Addr) (items2 : Array Value) (n2 : Nat) (sl2 : Array (Option Value)) (hc0 : ¬(!items.isEmpty && Builtin.List.listTooLong (items.size + items2.size)) = true) (hc1 : items.size ≤ sizeLine) (hs2 : items.size + items2.size ≤ sizeLine + 1) :
    Meets (Builtin.«list.extend» ⟨[.ref l, .ref b], []⟩) (fun _ R s => s.heap.get? l = some { cls := .type "list", dict := none, data := .seq items n, slots := #[] } ∧ s.heap.get? b = some { cls := .type "list", dict := none, data := .seq items2 n2, slots := sl2 } ∧ R (.ok (.ret Value.none)) { s with heap := s.heap.update l (Obj.mapSeq fun x => x ++ items2), toks := s.toks }) :=
  .of_wp fun prog w A R s h => by
    obtain ⟨hp, g, d, tk, os⟩ := s; obtain ⟨hl, hb, h⟩ := h; have f1 := AutoSeq1.idx_int; have f2 := AutoSeq1.sub_tuple_tuple; have f3 := AutoSeq1.sub_list_list; have f4 := AutoSeq1.sub_tuple_list; have f5 := AutoSeq1.sub_list_tuple;
    have hz' : (items ++ items2).size ≤ sizeLine + 1 := by rw [Array.size_append]; exact hs2
    wp_walk using (wpAny_updateSeq hl rfl (hz := hc1) (_hz' := hz')), wpAny_loadPart' hl, wpAny_loadPart' hb; exact ⟨_, rfl, h⟩
def rExtA (K : PySem.W.Frag) : V → List V → Hp → VK → Prop := fun x vs H Q => ∃ l b xs zs, x = .ref l ∧ vs = [.ref b] ∧ H l = some (.lst xs) ∧ SqL K H b zs ∧ xs.length + zs.length ≤ sizeLine ∧ Q .non (upd H l (.lst (xs ++ zs)))
theorem mt_extA : MtM X "list.extend" (rExtA X.K) := by
  intro pins s σ H x vs v us Q I rx rv h
  obtain ⟨l, b, xs, zs, rfl, rfl, hH, hB, hz, q⟩ := h
  cases rx
  obtain ⟨u, rfl, ru⟩ := rv.one
  cases ru
  obtain ⟨z, its, n, r, hl, e⟩ := I.lstM hH
  obtain ⟨its2, r2, ⟨⟨cls2, dd2, data2, sl2⟩, n2, e2, hc2, hdd2, hd2⟩, z2⟩ := I.list hB
  simp only at hc2 hdd2 hd2
  subst hc2 hdd2 hd2
  have hl2 := r2.length
  have hsz : its.toArray.size + its2.toArray.size ≤ sizeLine := by rw [List.size_toArray, List.size_toArray]; omega
  have hlong : ¬ (!its.toArray.isEmpty && Builtin.List.listTooLong (its.toArray.size + its2.toArray.size)) = true := by
    rw [notLongL hsz, Bool.and_false]
    exact Bool.false_ne_true
  refine call_meets F.slot_list_extend ⟨_, e, rfl⟩ F.entry_list_extend (F.args_list_extend_2 _ _)
    (list_extendW l its.toArray n b its2.toArray n2 sl2 hlong (by rw [List.size_toArray]; omega) (by omega)) ⟨e, e2, ?_⟩
  refine ⟨.non, _, I.lset (its' := its ++ its2) hH e (by simp) (r.append r2) ?_, rfl, q⟩
  rw [List.length_append]
  omega
theorem lm_extend {c : Cn} : LMOk c (rExtA c.K) opExtend := by
  intro G H l vs ws xs ds res ys Q sub hg hv rv rw_ ho k
  unfold opExtend at ho
  split at ho
  · split at ho
    · rename_i hz
      cases ho
      cases rw_ with
      | cons a b =>
        cases b
        cases a with
        | lst sq rs => exact ⟨l, _, vs, _, rfl, rfl, hv, Same.seq sub sq, by rw [rv.length, rs.length]; exact hz, k _ _ (rv.append rs) .non⟩
    · cases ho
  · cases ho
theorem few1 {e : Expr} {cpos : Pos} (hs : noStar e = true) : ((backTo cpos (starEach (e :: []) X.env)).all (fun x => !x.1) && (backToKw cpos (keywordEach [] X.env)).all (fun x => x.1.isSome)
      && decide ((e :: ([] : List Expr)).length + ([] : List Keyword).length + (if ([] : List Keyword).isEmpty then 0 else 1) < 30)) = true := by
  rw [starEach_cons hs]
  rfl
theorem pe_appendD (hv : PE X (.Name y p1) (tVar i)) (ha : PA X [e] (dA (cnOf X) T W as)) (hs : noStar e = true) (hline : (apos.endLine == pos.line) = true := by rfl) : PE X (.Call (.Attribute (.Name y p1) "append" apos) [e] [] pos) (dT (cnOf X) T W (sLM opAppend i as)) :=
  impPE (pe_bm PySem.F.plainAttrs_list PySem.F.slot_list_append PySem.F.type_list_append mt_append hv ha rfl (few1 hs) hline (starEach_cons hs) rfl) fun σ H Q h => imp_lm lm_append h
theorem pe_extendD (hv : PE X (.Name y p1) (tVar i)) (ha : PA X [e] (dA (cnOf X) T W as)) (hs : noStar e = true) (hline : (apos.endLine == pos.line) = true := by rfl) : PE X (.Call (.Attribute (.Name y p1) "extend" apos) [e] [] pos) (dT (cnOf X) T W (sLM opExtend i as)) :=
  impPE (pe_bm PySem.F.plainAttrs_list PySem.F.slot_list_extend PySem.F.type_list_extend mt_extA hv ha rfl (few1 hs) hline (starEach_cons hs) rfl) fun σ H Q h => imp_lm lm_extend h
theorem pe_popD (hv : PE X (.Name y p1) (tVar i)) (hline : (apos.endLine == pos.line) = true := by rfl) : PE X (.Call (.Attribute (.Name y p1) "pop" apos) [] [] pos) (dT (cnOf X) T W (sLM opPop i aN)) :=
  impPE (pe_bm0 PySem.F.plainAttrs_list PySem.F.slot_list_pop PySem.F.type_list_pop mt_pop hv rfl hline) fun σ H Q h => by
    obtain ⟨v, e, t, O, G, ρ, hold, k⟩ := imp_lm lm_pop h
    exact ⟨v, e, t, k [] G H .refl hold .nil⟩
end
end Sd
set_option Elab.async false
set_option linter.all false
set_option maxRecDepth 100000
set_option maxHeartbeats 4000000
set_option autoImplicit false
/-! Sd: dicts with tuple keys. -/
namespace Sd
open PySem PySem.Spec PyProof.Rows L2

/-! ### keys -/
mutual
def keyN : D → Option NestedKey
  | .none => some .none
  | .int i => some (.num i)
  | .str x => some (.text x)
  | .tuple xs => (keysN xs).map .tup
  | .bool _ => none
  | .list _ => none
  | .dict _ => none
def keysN : List D → Option (List NestedKey)
  | [] => some []
  | d :: ds => (keyN d).bind fun k => (keysN ds).map (k :: ·)
end
mutual
theorem keyN_data : ∀ (d : D) (k : NestedKey), keyN d = some k → k.data = d
  | .none, k, h => by simp only [keyN] at h; cases h; rfl
  | .int i, k, h => by simp only [keyN] at h; cases h; rfl
  | .str x, k, h => by simp only [keyN] at h; cases h; rfl
  | .tuple xs, k, h => by
    simp only [keyN] at h
    cases q : keysN xs with
    | none => rw [q] at h; cases h
    | some ks => rw [q] at h; cases h; simp only [NestedKey.data]; rw [keysN_data xs ks q]
  | .bool _, k, h => by simp only [keyN] at h; cases h
  | .list _, k, h => by simp only [keyN] at h; cases h
  | .dict _, k, h => by simp only [keyN] at h; cases h
theorem keysN_data : ∀ (ds : List D) (ks : List NestedKey), keysN ds = some ks → NestedKey.datas ks = ds
  | [], ks, h => by simp only [keysN] at h; cases h; rfl
  | d :: ds, ks, h => by
    simp only [keysN] at h
    cases q : keyN d with
    | none => rw [q] at h; cases h
    | some k =>
      rw [q] at h
      cases q2 : keysN ds with
      | none => rw [q2] at h; cases h
      | some ks' => rw [q2] at h; cases h; simp only [NestedKey.datas]; rw [keyN_data d k q, keysN_data ds ks' q2]
end
mutual
theorem eqv_key : ∀ a b : NestedKey, PyData.eqv a.data b.data = NestedKey.beq a b
  | .none, .none => by simp [NestedKey.data, PyData.eqv, NestedKey.beq]
  | .num a, .num b => by simp [NestedKey.data, PyData.eqv, NestedKey.beq]; rfl
  | .text a, .text b => by simp [NestedKey.data, PyData.eqv, NestedKey.beq]; rfl
  | .tup a, .tup b => by simp only [NestedKey.data, PyData.eqv, NestedKey.beq]; exact eqv_keys a b
  | .none, .num _ => by simp [NestedKey.data, PyData.eqv, NestedKey.beq]
  | .none, .text _ => by simp [NestedKey.data, PyData.eqv, NestedKey.beq]
  | .none, .tup _ => by simp [NestedKey.data, PyData.eqv, NestedKey.beq]
  | .num _, .none => by simp [NestedKey.data, PyData.eqv, NestedKey.beq]
  | .num _, .text _ => by simp [NestedKey.data, PyData.eqv, NestedKey.beq]
  | .num _, .tup _ => by simp [NestedKey.data, PyData.eqv, NestedKey.beq]
  | .text _, .none => by simp [NestedKey.data, PyData.eqv, NestedKey.beq]
  | .text _, .num _ => by simp [NestedKey.data, PyData.eqv, NestedKey.beq]
  | .text _, .tup _ => by simp [NestedKey.data, PyData.eqv, NestedKey.beq]
  | .tup _, .none => by simp [NestedKey.data, PyData.eqv, NestedKey.beq]
  | .tup _, .num _ => by simp [NestedKey.data, PyData.eqv, NestedKey.beq]
  | .tup _, .text _ => by simp [NestedKey.data, PyData.eqv, NestedKey.beq]
theorem eqv_keys : ∀ a b : List NestedKey, PyData.eqvAll (NestedKey.datas a) (NestedKey.datas b) = NestedKey.beqAll a b
  | [], [] => by simp [NestedKey.datas, PyData.eqvAll, NestedKey.beqAll]
  | a :: as, b :: bs => by simp only [NestedKey.datas, PyData.eqvAll, NestedKey.beqAll]; rw [eqv_key a b, eqv_keys as bs]
  | [], _ :: _ => by simp [NestedKey.datas, PyData.eqvAll, NestedKey.beqAll]
  | _ :: _, [] => by simp [NestedKey.datas, PyData.eqvAll, NestedKey.beqAll]
end
theorem eqv_dec (a b : NestedKey) : PyData.eqv a.data b.data = decide (a = b) := by rw [NestedKey.decide_eq, eqv_key]
section
variable {X : Cx} {pins : List (Addr × Obj)} {σ : St} {G H : Hp} {s : Shared}
mutual
theorem Rep.nested (I : Inv X pins σ H s) (sub : Same G H) : ∀ (k : NestedKey) (v : V) (u : Value), Rep (cnOf X) G v k.data → RelV v u → NestedIs s.heap k u
  | .none, _, _, h, r => by simp only [NestedKey.data] at h; cases h; cases r; exact .none
  | .num i, _, _, h, r => by simp only [NestedKey.data] at h; cases h; obtain ⟨t, rfl⟩ := r; exact .int i t
  | .text x, _, _, h, r => by simp only [NestedKey.data] at h; cases h; obtain ⟨t, rfl⟩ := r; exact .text x t
  | .tup ks, _, _, h, r => by
    simp only [NestedKey.data] at h
    cases h with
    | tup sq rs =>
      cases r
      obtain ⟨its, rv, ⟨o, ho, hc, n, hd⟩, _⟩ := I.tuple (sqt_mono sub sq)
      exact .tup ho hc hd (Rep.nestedAll I sub ks _ its rs rv)
theorem Rep.nestedAll (I : Inv X pins σ H s) (sub : Same G H) : ∀ (ks : List NestedKey) (vs : List V) (us : List Value), Reps (cnOf X) G vs (NestedKey.datas ks) → Vals vs us → NestedAll s.heap ks us
  | [], _, _, h, r => by simp only [NestedKey.datas] at h; cases h; cases r; exact .nil
  | k :: ks, _, _, h, r => by
    simp only [NestedKey.datas] at h
    cases h with
    | cons h1 h2 =>
      cases r with
      | cons r1 r2 => exact .cons (Rep.nested I sub k _ _ h1 r1) (Rep.nestedAll I sub ks _ _ h2 r2)
end
end

/-! ### dicts as data -/
def lookD (kvs : List (D × D)) (d : D) : Option D := (kvs.find? fun p => PyData.eqv p.1 d).map (·.2)
def storeD (kvs : List (D × D)) (d e : D) : List (D × D) := if (lookD kvs d).isSome = true then kvs.map fun p => if PyData.eqv p.1 d = true then (p.1, e) else p else kvs ++ [(d, e)]
/-- a key that is a tuple -/
def tupKey (d : D) : Option NestedKey := match keyN d with
  | some (.tup ks) => if (NestedKey.tup ks).depth ≤ 8 then some (.tup ks) else none
  | _ => none
theorem tupKey_some {d : D} {k : NestedKey} (h : tupKey d = some k) : (∃ ks, k = .tup ks) ∧ k.depth ≤ 8 ∧ k.data = d := by
  unfold tupKey at h
  split at h
  · rename_i ks q
    split at h
    · rename_i hz; cases h; exact ⟨⟨_, rfl⟩, hz, keyN_data _ _ q⟩
    · cases h
  · cases h
def isTup : D → Bool
  | .tuple _ => true
  | _ => false
def allTup (kvs : List (D × D)) : Bool := kvs.all fun p => isTup p.1
/-- entries with their values -/
abbrev PN : List (NestedKey × Addr × V) → List (NestedKey × Addr × Value) → Prop := Paired fun x y => x.1 = y.1 ∧ x.2.1 = y.2.1 ∧ RelV x.2.2 y.2.2
def NAt (c : Cn) (H : Hp) (a : Addr) (xs : List (NestedKey × Addr × V)) : Prop := H a = some (.ext (NDict c a xs)) ∨ (xs = [] ∧ Rd H a (.dK []))
section
variable {X : Cx} {pins : List (Addr × Obj)} {σ : St} {G H : Hp} {s : Shared}
theorem keys_is (I : Inv X pins σ H s) (sub : Same G H) : ∀ {xs : List (NestedKey × Addr × V)} {kvs : List (D × D)} {ys : List (NestedKey × Addr × Value)}, RepsN (cnOf X) G xs kvs → PN xs ys → ∀ y ∈ ys, (nestedKind X.prog X.w).is s.heap y.1 y.2.1
  | _, _, _, .nil, p => by cases p; intro y hy; cases hy
  | _, _, _, .cons l r1 _ t, p => by
    cases p with
    | cons h q =>
      intro y hy
      rcases List.mem_cons.mp hy with rfl | hy
      · obtain ⟨h1, h2, _⟩ := h
        simp only at h1 h2
        rw [← h1, ← h2]
        exact ⟨Rep.nested I sub _ _ _ r1 rfl, l⟩
      · exact keys_is I sub t q y hy
theorem nd_of {a : Addr} {xs : List (NestedKey × Addr × V)} {kvs : List (D × D)} (I : Inv X pins σ H s) (h : NAt (cnOf X) H a xs) (sub : Same G H) (rn : RepsN (cnOf X) G xs kvs) : (a == sysModules) = false ∧ xs.length ≤ sizeLine ∧ ∃ ys, PN xs ys ∧ s.heap.DictOfH (nestedKind X.prog X.w) a ys := by
  rcases h with h | ⟨rfl, h⟩
  · obtain ⟨⟨h1, h2, ys, p, o, es, ep, e1, e2, e3, e4, e5⟩, _⟩ := (show ObjOk X.prog X.w H s.heap a (.ext (NDict (cnOf X) a xs)) from I.hok a _ h)
    exact ⟨h1, h2, ys, p, o, es, ep, e1, e2, e3, e4, keys_is I sub rn p, e5⟩
  · obtain ⟨h1, h2, vs, kv, o, es, ep, e1, e2, e3, e4, e5, e6⟩ := (show ObjOk X.prog X.w H s.heap a (.dK []) from h.ok I.hok)
    cases kv
    have hes : es.toList = [] := by
      generalize es.toList = l at e5
      cases e5
      rfl
    exact ⟨h2, Nat.zero_le _, [], .nil, o, es, ep, e1, e2, e3, hes, (fun y hy => by cases hy), List.nodup_nil⟩
theorem look_n {c : Cn} {k : NestedKey} : ∀ {xs : List (NestedKey × Addr × V)} {kvs : List (D × D)} {ys : List (NestedKey × Addr × Value)}, RepsN c G xs kvs → PN xs ys →
    match lookD kvs k.data with
    | some e => ∃ b v u, atKey ys k = some (b, u) ∧ RelV v u ∧ Rep c G v e
    | none => atKey ys k = none
  | _, _, _, .nil, p => by cases p; rfl
  | _, _, _, .cons (k := k0) l r1 r2 t, p => by
    cases p with
    | cons h q =>
      rename_i y ys
      obtain ⟨h1, h2, h3⟩ := h
      simp only at h1 h2 h3
      have ih := look_n (k := k) t q
      by_cases e : k0 = k
      · have ee : PyData.eqv k0.data k.data = true := by rw [eqv_dec]; exact decide_eq_true e
        simp only [lookD, List.find?_cons, ee, Option.map_some]
        refine ⟨y.2.1, _, y.2.2, ?_, h3, r2⟩
        simp [atKey, ← h1, e]
      · have ee : PyData.eqv k0.data k.data = false := by rw [eqv_dec]; exact decide_eq_false e
        simp only [lookD, List.find?_cons, ee] at ih ⊢
        have : atKey (y :: ys) k = atKey ys k := by
          unfold atKey
          rw [List.find?_cons]
          have : decide (y.1 = k) = false := decide_eq_false (by rw [← h1]; exact e)
          rw [this]
        rw [this]
        exact ih
/-- what a view of a dict with tuple keys says -/
theorem Vw.dictN {c : Cn} {v : V} {kvs : List (D × D)} (h : Vw c G H v (.dict kvs)) (sub : Same G H) (ht : allTup kvs = true) : ∃ a xs, v = .ref a ∧ NAt c H a xs ∧ RepsN c G xs kvs := by
  have noK : ∀ {es : List (Key × V)}, RepsK c G es kvs → es = [] ∧ kvs = [] := by
    intro es r
    cases r with
    | nil => exact ⟨rfl, rfl⟩
    | cons a b =>
      rename_i k _ _ _ _
      cases k <;> simp [allTup, isTup, keyD] at ht
  rcases h with h | ⟨a, o, rfl, _, ob, e⟩
  · cases h with
    | dctK q r =>
      obtain ⟨rfl, rfl⟩ := noK r
      exact ⟨_, [], rfl, .inr ⟨rfl, rd_mono sub q⟩, .nil⟩
    | dctN q r => exact ⟨_, _, rfl, .inl (sub _ _ q), r⟩
  · cases o with
    | lst _ => cases e
    | dct kvs' =>
      cases e
      rcases ob with ⟨es, e1, r⟩ | ⟨xs, e1, r⟩
      · obtain ⟨rfl, rfl⟩ := noK r
        exact ⟨a, [], rfl, .inr ⟨rfl, .inl e1⟩, .nil⟩
      · exact ⟨a, xs, rfl, .inl e1, r⟩
theorem key_view {v : V} {u : Value} {d : D} {k : NestedKey} (h : Vw (cnOf X) G H v d) (I : Inv X pins σ H s) (sub : Same G H) (hk : tupKey d = some k) (r : RelV v u) : ∃ b, v = .ref b ∧ u = .ref b ∧ (nestedKind X.prog X.w).is s.heap k b ∧ Rep (cnOf X) G (.ref b) k.data := by
  obtain ⟨⟨ks, rfl⟩, hd, e⟩ := tupKey_some hk
  have e' : d = .tuple (NestedKey.datas ks) := by rw [← e]; simp only [NestedKey.data]
  rw [e'] at h
  obtain ⟨b, vs, rfl, sq, rs⟩ := h.tuple sub
  cases r
  have rp : Rep (cnOf X) G (.ref b) (NestedKey.tup ks).data := by simp only [NestedKey.data]; exact .tup sq rs
  exact ⟨b, rfl, rfl, ⟨Rep.nested I sub _ _ _ rp rfl, hd⟩, rp⟩
end
/-! ### in, not in, d[k], len, list(d) -/
def inN (d : D) (kvs : List (D × D)) : Option Bool := (tupKey d).bind fun _ => if allTup kvs = true then some (lookD kvs d).isSome else none
def pIn2 (d e : D) : Option Sl := match e with
  | .dict kvs => (inN d kvs).bind vB
  | e => pIn d e
def pNotIn2 (d e : D) : Option Sl := match e with
  | .dict kvs => (inN d kvs).bind fun b => vB (!b)
  | e => pNotIn d e
def pIx2 (d e : D) : Option Sl := match d with
  | .dict kvs => (tupKey e).bind fun _ => if allTup kvs = true then (lookD kvs e).map .val else none
  | d => pIx d e
def pLen2 (ds : List D) : Option Sl := match ds with
  | [.dict kvs] => if allTup kvs = true then vI kvs.length else none
  | ds => pLen ds
def pListC2 (ds : List D) : Option Sl := match ds with
  | [.dict kvs] => if allTup kvs = true then some (.own (.lst (kvs.map (·.1)))) else none
  | ds => pListC ds
theorem room_k {X : Cx} (hu : X.A.units + 64 < cLine) : (nestedKind X.prog X.w).room X.A.in1 := by
  show X.A.units + 1 + 8 < cLine
  omega
theorem RepsN.length {c : Cn} {G : Hp} : ∀ {xs : List (NestedKey × Addr × V)} {kvs : List (D × D)}, RepsN c G xs kvs → xs.length = kvs.length
  | _, _, .nil => rfl
  | _, _, .cons _ _ _ t => by simp [RepsN.length t]
section
variable {X : Cx}
theorem isSome_n {c : Cn} {G : Hp} {k : NestedKey} {xs : List (NestedKey × Addr × V)} {kvs : List (D × D)} {ys : List (NestedKey × Addr × Value)} (r : RepsN c G xs kvs) (p : PN xs ys) : (lookD kvs k.data).isSome = (atKey ys k).isSome := by
  have := look_n (k := k) r p
  cases q : lookD kvs k.data with
  | none => rw [q] at this; rw [this]; rfl
  | some e => rw [q] at this; obtain ⟨b, v, u, e1, _⟩ := this; rw [e1]; rfl
theorem op_in2 (hu : X.A.units + 64 < cLine) : OpR X (compareOp .In) (rD (cnOf X) pIn2) := by
  intro pins s σ H x y v u Q I rx ry ⟨G, d, e, r, sub, ntb, hv, hw, hp, k⟩
  cases e with
  | dict kvs =>
    simp only [pIn2, inN] at hp
    cases q : tupKey d with
    | none => rw [q] at hp; cases hp
    | some kk =>
      rw [q] at hp
      by_cases ht : allTup kvs = true
      · simp only [Option.bind_some, if_pos ht] at hp
        cases hp
        obtain ⟨b, rfl, rfl, ki, _⟩ := key_view hv I sub q rx
        obtain ⟨a, xs, rfl, na, rn⟩ := hw.dictN sub ht
        cases ry
        obtain ⟨h1, h2, ys, p, hm⟩ := nd_of I na sub rn
        refine in_keyed (room_k hu) ki h1 ⟨ys, hm, rfl⟩ ⟨.bl _, H, I.tok _, rfl, ?_⟩
        rw [valueAt_pairsH, Option.isSome_map, ← isSome_n rn p, (tupKey_some q).2.2]
        exact k_val sub ntb k (.bl _)
      · simp only [Option.bind_some, if_neg ht] at hp; cases hp
  | _ => exact op_inDD hu pins s σ H x y v u Q I rx ry ⟨G, d, _, r, sub, ntb, hv, hw, hp, k⟩
theorem op_notIn2 (hu : X.A.units + 64 < cLine) : OpR X (compareOp .NotIn) (rD (cnOf X) pNotIn2) := by
  intro pins s σ H x y v u Q I rx ry ⟨G, d, e, r, sub, ntb, hv, hw, hp, k⟩
  cases e with
  | dict kvs =>
    simp only [pNotIn2, inN] at hp
    cases q : tupKey d with
    | none => rw [q] at hp; cases hp
    | some kk =>
      rw [q] at hp
      by_cases ht : allTup kvs = true
      · simp only [Option.bind_some, if_pos ht] at hp
        cases hp
        obtain ⟨b, rfl, rfl, ki, _⟩ := key_view hv I sub q rx
        obtain ⟨a, xs, rfl, na, rn⟩ := hw.dictN sub ht
        cases ry
        obtain ⟨h1, h2, ys, p, hm⟩ := nd_of I na sub rn
        refine notIn_keyed (room_k hu) ki h1 ⟨ys, hm, rfl⟩ ⟨.bl _, H, I.tok _, rfl, ?_⟩
        rw [valueAt_pairsH, Option.isSome_map, ← isSome_n rn p, (tupKey_some q).2.2]
        exact k_val sub ntb k (.bl _)
      · simp only [Option.bind_some, if_neg ht] at hp; cases hp
  | _ => exact op_notInDD hu pins s σ H x y v u Q I rx ry ⟨G, d, _, r, sub, ntb, hv, hw, hp, k⟩
theorem ix_D2 (hu : X.A.units + 64 < cLine) : IxR X (rD (cnOf X) pIx2) := by
  intro value slice pins s σ H x y v u Q I rx ry ⟨G, d, e, r, sub, ntb, hv, hw, hp, k⟩ hs
  cases d with
  | dict kvs =>
    simp only [pIx2] at hp
    cases q : tupKey e with
    | none => rw [q] at hp; cases hp
    | some kk =>
      rw [q] at hp
      by_cases ht : allTup kvs = true
      · simp only [Option.bind_some, if_pos ht] at hp
        cases q2 : lookD kvs e with
        | none => rw [q2] at hp; cases hp
        | some e' =>
        rw [q2] at hp; cases hp
        obtain ⟨b, rfl, rfl, ki, _⟩ := key_view hw I sub q ry
        obtain ⟨a, xs, rfl, na, rn⟩ := hv.dictN sub ht
        cases rx
        obtain ⟨h1, h2, ys, p, hm⟩ := nd_of I na sub rn
        have lk := look_n (k := kk) rn p
        rw [(tupKey_some q).2.2, q2] at lk
        obtain ⟨b', v', u', e1, e2, e3⟩ := lk
        have hva : valueAt (pairsH ys) kk = some u' := by rw [valueAt_pairsH, e1]; rfl
        exact subscriptTail_builtinR (x := u') hm.typeIs F.slot_dict_getitem.lookup (getItem_keyed (Q := fun r s' => r = u' ∧ EP X pins σ Q r s') (room_k hu) ki ⟨ys, hm, rfl⟩ hva ⟨rfl, v', H, I.tok _, e2, k_val sub ntb k e3⟩) hs
      · simp only [Option.bind_some, if_neg ht] at hp; cases hp
  | _ => exact ix_D value slice pins s σ H x y v u Q I rx ry ⟨G, _, e, r, sub, ntb, hv, hw, hp, k⟩ hs
theorem PN.length {xs : List (NestedKey × Addr × V)} {ys : List (NestedKey × Addr × Value)} (p : PN xs ys) : xs.length = ys.length := Paired.length p
theorem cr_len2 : CallR X (.builtin "len") (rDN (cnOf X) pLen2) := by
  intro pins s σ H xs us Q I rs ⟨G, ds, r, sub, ntb, hv, hp, k⟩
  unfold pLen2 at hp
  split at hp
  · rename_i kvs
    by_cases ht : allTup kvs = true
    · rw [if_pos ht] at hp; cases hp
      obtain ⟨v, rfl, hv1⟩ := one_arg hv
      obtain ⟨a, xs, rfl, na, rn⟩ := hv1.dictN sub ht
      rw [Vals.ref1 rs]
      obtain ⟨h1, h2, ys, p, hm⟩ := nd_of I na sub rn
      have hl := p.length
      have hl2 := rn.length
      have := line63
      refine call_len_dictH h1 hm (by omega) ⟨.int kvs.length, H, I.tok _, ⟨_, by rw [← hl, hl2]⟩, k_val sub ntb k (.int _)⟩
    · rw [if_neg ht] at hp; cases hp
  · exact cr_len pins s σ H xs us Q I rs ⟨G, _, r, sub, ntb, hv, hp, k⟩
theorem calm_hd {pins : List (Addr × Obj)} {σ : St} {H : Hp} {s : Shared} (hc : X.calm = true) (I : Inv X pins σ H s) : X.A.handled = none := I.ok.hd hc
theorem keys_vals {c : Cn} {G : Hp} : ∀ {xs : List (NestedKey × Addr × V)} {kvs : List (D × D)} {ys : List (NestedKey × Addr × Value)}, RepsN c G xs kvs → PN xs ys → Reps c G (ys.map fun y => V.ref y.2.1) (kvs.map (·.1))
  | _, _, _, .nil, p => by cases p; exact .nil
  | _, _, _, .cons l r1 _ t, p => by
    cases p with
    | cons h q =>
      obtain ⟨_, h2, _⟩ := h
      simp only at h2
      exact .cons (by simp only; rw [← h2]; exact r1) (keys_vals t q)
theorem cr_list2 (hc : X.calm = true) : CallR X (.type "list") (rDN (cnOf X) pListC2) := by
  intro pins s σ H xs us Q I rs ⟨G, ds, r, sub, ntb, hv, hp, k⟩
  unfold pListC2 at hp
  split at hp
  · rename_i kvs
    by_cases ht : allTup kvs = true
    · rw [if_pos ht] at hp; cases hp
      obtain ⟨v, rfl, hv1⟩ := one_arg hv
      obtain ⟨a, xs, rfl, na, rn⟩ := hv1.dictN sub ht
      rw [Vals.ref1 rs]
      obtain ⟨h1, h2, ys, p, o, es, ep, ho, hx, hdt, he, hkeys, hn⟩ := nd_of I na sub rn
      have hl := p.length
      have l1 : es.size = ys.length := size_of_entries he
      refine PySem.W.kdl_call (kdl_raw h1 hx hdt) (I.ok.hd hc) ho (by omega) fun h' tk acc' c' kp e it => ?_
      have ea : acc'.toList = ys.map fun y => Value.ref y.2.1 := by
        have hl : acc'.toList.length = ys.length := by rw [Array.length_toList, it.1]; exact l1
        apply List.ext_getElem?
        intro j
        rw [List.getElem?_map]
        cases hj : acc'.toList[j]? with
        | none =>
          have h1 := List.getElem?_eq_none_iff.mp hj
          rw [List.getElem?_eq_none (by omega)]
          all_goals rfl
        | some v =>
          obtain ⟨en, hen, hv⟩ := it.2 j v (by rw [← Array.getElem?_toList]; exact hj)
          have qe := entry_at he j
          rw [hen] at qe
          cases hb : ys[j]? with
          | none =>
            rw [hb] at qe
            exact nomatch (show some en = none from qe)
          | some b =>
            rw [hb] at qe
            have e2 : en = entryOfKey (nestedKind X.prog X.w) b := Option.some.inj qe
            rw [hv, e2]
            all_goals rfl
      have rv : Vals (ys.map fun y => V.ref y.2.1) acc'.toList := by
        rw [ea]
        have : ∀ l : List (NestedKey × Addr × Value), Vals (l.map fun y => V.ref y.2.1) (l.map fun y => Value.ref y.2.1) := fun l => by
          induction l with
          | nil => exact .nil
          | cons y l ih => exact .cons rfl ih
        exact this ys
      refine ⟨.ref s.heap.objs.size, _, I.laid (t' := tk) (o := .lst (ys.map fun y => V.ref y.2.1)) kp (Nat.le_refl _) ?_, rfl, k_lst sub ntb k (keys_vals rn p) (I.hok.fresh (Nat.le_refl _))⟩
      exact ⟨by rw [List.length_map]; omega, acc'.toList, c', rv, by rw [Array.toArray_toList]; exact e⟩
    · rw [if_neg ht] at hp; cases hp
  · exact cr_list pins s σ H xs us Q I rs ⟨G, _, r, sub, ntb, hv, hp, k⟩
/-! ### stores -/
theorem RepsN.append {c : Cn} {G : Hp} : ∀ {xs ys : List (NestedKey × Addr × V)} {kvs lvs : List (D × D)}, RepsN c G xs kvs → RepsN c G ys lvs → RepsN c G (xs ++ ys) (kvs ++ lvs)
  | _, _, _, _, .nil, q => q
  | _, _, _, _, .cons l a b t, q => .cons l a b (t.append q)
/-- behind a store: the entries -/
theorem store_n {c : Cn} {G : Hp} {k : NestedKey} {a : Addr} {v : V} {u : Value} {e : D} (hd : k.depth ≤ 8) (rk : Rep c G (.ref a) k.data) (rv : Rep c G v e) (ru : RelV v u) {xs : List (NestedKey × Addr × V)} {kvs : List (D × D)} {ys : List (NestedKey × Addr × Value)} (r : RepsN c G xs kvs) (p : PN xs ys) :
    ∃ xs', PN xs' (storedH ys k a u) ∧ RepsN c G xs' (storeD kvs k.data e) ∧ xs'.length ≤ xs.length + 1 := by
  have hs := isSome_n (k := k) r p
  unfold storedH storeD
  rw [← hs]
  by_cases h : (lookD kvs k.data).isSome = true
  · rw [if_pos h, if_pos h]
    clear hs h
    suffices h : ∃ xs', PN xs' (ys.map (putAt k u)) ∧ RepsN c G xs' (kvs.map fun p => if PyData.eqv p.1 k.data = true then (p.1, e) else p) ∧ xs'.length = xs.length by
      obtain ⟨xs', h1, h2, h3⟩ := h
      exact ⟨xs', h1, h2, by omega⟩
    induction p generalizing kvs with
    | nil => cases r; exact ⟨[], .nil, .nil, rfl⟩
    | cons h q ih =>
      rename_i x y _ _
      cases r with
      | cons l r1 r2 t =>
        rename_i k0 b v0 d0 kvs0
        obtain ⟨xs', g1, g2, g3⟩ := ih t
        obtain ⟨h1, h2, h3⟩ := h
        simp only at h1 h2 h3
        by_cases ek : k0 = k
        · refine ⟨(k0, b, v) :: xs', .cons ?_ g1, ?_, by simp [g3]⟩
          · unfold putAt
            rw [if_pos (by rw [← h1]; exact ek)]
            exact ⟨h1, h2, ru⟩
          · simp only [List.map_cons]
            rw [if_pos (by rw [eqv_dec]; exact decide_eq_true ek)]
            exact .cons l r1 rv g2
        · refine ⟨(k0, b, v0) :: xs', .cons ?_ g1, ?_, by simp [g3]⟩
          · unfold putAt
            rw [if_neg (by rw [← h1]; exact ek)]
            exact ⟨h1, h2, h3⟩
          · simp only [List.map_cons]
            rw [if_neg (by rw [eqv_dec]; simpa using ek)]
            exact .cons l r1 r2 g2
  · rw [if_neg h, if_neg h]
    refine ⟨xs ++ [(k, a, v)], ?_, r.append (.cons hd rk rv .nil), by simp⟩
    exact Paired.snoc p ⟨rfl, rfl, ru⟩
/-- what a store makes of an owned object -/
def storeOb : Ob → D → D → Option Ob
  | .lst xs, .int i, e => (ixN xs.length i).map fun j => .lst (xs.set j e)
  | .dct kvs, d, e => (tupKey d).bind fun _ => if allTup kvs = true ∧ kvs.length < sizeLine then some (.dct (storeD kvs d e)) else none
  | _, _, _ => none
def rSetO (c : Cn) : TSet := fun o i v H Q => ∃ G a ob d e ob', o = .ref a ∧ G a = none ∧ Same G H ∧ ObAt c G H a ob ∧ Rep c G i d ∧ Rep c G v e ∧ storeOb ob d e = some ob' ∧ ∀ u, ObAt c G (upd H a u) a ob' → Q (upd H a u)
theorem Mut_upd {H : Hp} {a : Addr} {xs : List (NestedKey × Addr × V)} {c : Cn} (h : NAt c H a xs) (hf : ∀ o u, H a ≠ some (.frz o u)) : Mut (H a) := by
  rcases h with h | ⟨_, h | ⟨o, h⟩⟩
  · rw [h]; trivial
  · rw [h]; trivial
  · exact (hf o _ h).elim
theorem ndict_of {a : Addr} {xs : List (NestedKey × Addr × V)} {ys : List (NestedKey × Addr × Value)} {c : Cn} {h : Heap} (hs : (a == sysModules) = false) (hl : xs.length ≤ sizeLine) (p : PN xs ys) (hm : h.DictOfH (nestedKind c.P c.w) a ys) : NDict c a xs h := by
  obtain ⟨o, es, ep, h1, h2, h3, h4, h5, h6⟩ := hm
  exact ⟨hs, hl, ys, p, o, es, ep, h1, h2, h3, h4, h6⟩
theorem ndict_ok {P : Program} {w : World} {H : Hp} {c : Cn} {a : Addr} {xs : List (NestedKey × Addr × V)} {h : Heap} (n : NDict c a xs h) : ObjOk P w H h a (.ext (NDict c a xs)) := by
  refine ⟨n, ?_, fun h1 h2 n hk => ?_⟩
  · obtain ⟨_, _, _, _, o, _, _, e, _⟩ := n
    exact ⟨o, e⟩
  · obtain ⟨g1, g2, ys, p, o, es, ep, e, g3⟩ := n
    exact ⟨g1, g2, ys, p, o, es, ep, hk o e, g3⟩
theorem set_O (hu : X.A.units + 64 < cLine) : PSet X (rSetO (cnOf X)) := by
  intro pins s σ H o i v ov iv u Q I ro ri rv ⟨G, a, ob, d, e, ob', ho, hg, sub, oat, ri', rv', hst, k⟩
  subst ho
  cases ob with
  | lst xs =>
    cases d with
    | int j =>
      simp only [storeOb] at hst
      cases q : ixN xs.length j with
      | none => rw [q] at hst; cases hst
      | some jj =>
        rw [q] at hst; cases hst
        obtain ⟨vs, e1, rs⟩ := oat
        cases ri'
        exact set_list pins s σ H _ _ v ov iv u Q I ro ri rv ⟨a, vs, j, jj, rfl, rfl, e1, by rw [rs.length]; exact q, k _ ⟨_, upd_same, rs.set rv' jj⟩⟩
    | _ => cases hst
  | dct kvs =>
    simp only [storeOb] at hst
    cases q : tupKey d with
    | none => rw [q] at hst; cases hst
    | some kk =>
      rw [q] at hst
      by_cases ht : allTup kvs = true ∧ kvs.length < sizeLine
      · simp only [Option.bind_some, if_pos ht] at hst
        cases hst
        obtain ⟨b, rfl, rfl, ki, rk⟩ := key_view (.inl ri') I sub q ri
        have vw : Vw (cnOf X) G H (.ref a) (.dict kvs) := .inr ⟨a, .dct kvs, rfl, hg, oat, rfl⟩
        obtain ⟨a', xs, ea, na, rn⟩ := vw.dictN sub ht.1
        cases ea
        cases ro
        obtain ⟨h1, h2, ys, p, hm⟩ := nd_of I na sub rn
        have hkd := (tupKey_some q).2.2
        obtain ⟨xs', p', rn', hl'⟩ := store_n (tupKey_some q).2.1 rk rv' rv rn p
        have hlx := rn.length
        have hly := p.length
        have hz' : xs'.length ≤ sizeLine := by omega
        have hmut : Mut (H a) := by
          refine Mut_upd na fun o u z => ?_
          rcases oat with ⟨es, z2, _⟩ | ⟨es, z2, _⟩
          · rw [z2] at z; cases z
          · rw [z2] at z; cases z
        refine wpAny_setItem_heap (hsz := by omega) (room_k hu) ki hm fun h' hm' hs => ?_
        have nd : NDict (cnOf X) a xs' h' := ndict_of h1 hz' p' hm'
        refine ⟨upd H a (.ext (NDict (cnOf X) a xs')), ?_, k _ (.inr ⟨xs', upd_same, by rw [← hkd]; exact rn'⟩)⟩
        refine I.write (t' := s.toks + (nestedKind X.prog X.w).draws kk) hmut (.inl rfl) (fun b u hb e => (hs.2 b hb).trans e) ?_ (ndict_ok nd)
        obtain ⟨_, _, _, _, o, _, _, e, _⟩ := nd
        exact ⟨o, e⟩
      · simp only [Option.bind_some, if_neg ht] at hst; cases hst
end
end Sd
set_option Elab.async false
set_option linter.all false
set_option maxRecDepth 100000
set_option maxHeartbeats 4000000
set_option autoImplicit false
/-! Sd: stores at subscripts, new dicts. -/
namespace Sd
open PySem PySem.Spec PyProof.Rows L2

def mStore (i : Nat) (g f : M Sl) : MS := fun ρ => (f ρ).out fun r ρ1 => match ρ1[i]? with
  | some (some (.own _)) => (g ρ1).out fun k ρ2 => match ρ2[i]? with
    | some (some (.own ob)) => match storeOb ob k.frz r.frz with
      | some ob' => .nx (ρ2.set i (some (.own ob')))
      | none => .bad
    | _ => .bad
  | _ => .bad
def sDict0 : M Sl := fun ρ => .ok (.own (.dct [])) ρ
theorem WtS.laterT {c : Cn} {T : Fx} {W : WX} {O : Addr → Prop} {G H G1 H1 : Hp} {σ : St} {x : Out} {E : Ends} (t : Tr O G H G1 H1) (h : WtS c T W O G σ H x E) : WtS c T W O G1 σ H1 x E := h.later (fun _ z => .inl z) t
section
variable {X : Cx} {T : Fx} {W : WX} {e ix : Expr} {y : Str} {p1 pos' pos : Pos} {i : Nat} {f g : M Sl}
theorem imp_store {c : Cn} {E : Ends} {σ : St} {H : Hp} (h : dS c T W (mStore i g f) E σ H) : tAsg (dT c T W f) (gSub (tVar i) (dT c T W g) (rSetO c)) E σ H := by
  obtain ⟨O, G, ρ, hold, h⟩ := h
  refine ⟨O, G, ρ, hold, ?_⟩
  unfold mStore at h
  cases q : f ρ with
  | bad => rw [q] at h; exact h
  | exc x ρ' => rw [q] at h; exact fun G' H' tr hd => h O G' σ H' (fun _ z => .inl z) tr hd
  | ok r ρ0 =>
  rw [q] at h
  simp only [Res.out_ok] at h
  intro v G0 H0 t0 hd0 rr
  obtain ⟨G1, s1, t1, hold1, rv⟩ := hd0.frzR hold.oin t0 rr
  replace h := h.laterT t1
  cases q1 : ρ0[i]? with
  | none => rw [q1] at h; exact h.elim
  | some os =>
  cases os with
  | none => rw [q1] at h; exact h.elim
  | some sl =>
  cases sl with
  | val d => rw [q1] at h; exact h.elim
  | own o0 =>
  rw [q1] at h
  simp only at h
  obtain ⟨a, ea, _, _, _⟩ := hold1.at_own q1
  refine ⟨.ref a, ea, O, G1, ρ0, hold1, ?_⟩
  cases q2 : g ρ0 with
  | bad => rw [q2] at h; exact h
  | exc x ρ' => rw [q2] at h; exact fun G' H' tr hd => h O G' σ H' (fun _ z => .inl z) tr hd
  | ok k ρ2 =>
  rw [q2] at h
  simp only [Res.out_ok] at h
  intro vk G2 H2 t2 hd2 rk
  obtain ⟨G3, s3, t3, hold3, rk'⟩ := hd2.frzR hold1.oin t2 rk
  replace h := h.laterT t3
  cases q3 : ρ2[i]? with
  | none => rw [q3] at h; exact h.elim
  | some os =>
  cases os with
  | none => rw [q3] at h; exact h.elim
  | some sl =>
  cases sl with
  | val d => rw [q3] at h; exact h.elim
  | own ob =>
  rw [q3] at h
  simp only at h
  cases q4 : storeOb ob k.frz r.frz with
  | none => rw [q4] at h; exact h.elim
  | some ob' =>
  rw [q4] at h
  simp only at h
  obtain ⟨a', ea', hO, hg, oat⟩ := hold3.at_own q3
  rw [ea] at ea'; cases ea'
  refine ⟨G3, a, ob, k.frz, r.frz, ob', rfl, hg, hold3.sub, oat, rk', rv.mono t3.g, q4, fun u oat' => ?_⟩
  obtain ⟨h5, t5⟩ := hold3.writeO q3 ea oat'
  exact h O G3 σ _ (fun _ z => .inl z) t5 h5
theorem ps_storeD (hu : X.A.units + 64 < cLine) (he : PE X e (dT (cnOf X) T W f)) (hv : PE X (.Name y p1) (tVar i)) (hx : PE X ix (dT (cnOf X) T W g))
    (ha : ∀ v, assign (.Subscript (.Name y p1) ix pos') X.env v = (do
      let ov ← holding [v] (eval (.Name y p1) X.env)
      let iv ← holding [v, ov] (eval ix X.env)
      standAt pos'
      holding [v, ov, iv] (setItem ov iv v)
      release [v, ov, iv] []) := by intro _; rfl)
    (hs : swapsWithSole [.Subscript (.Name y p1) ix pos'] e pos.line X.env = pure false := by rfl) (hw : swappedStores [.Subscript (.Name y p1) ix pos'] e X.env = pure none := by rfl)
    (h1 : (assignEach [.Subscript (.Name y p1) ix pos'] X.env).map (·.2) = [assign (.Subscript (.Name y p1) ix pos') X.env] := by rfl) :
    PS X (.Assign [.Subscript (.Name y p1) ix pos'] e pos) (dS (cnOf X) T W (mStore i g f)) := impPS (ps_asg he (pg_sub hv hx (set_O hu) ha) hs hw h1) fun E σ H h => imp_store h
theorem pe_dict0D : PE X (.Dict [] [] pos) (dT (cnOf X) T W sDict0) := impPE pe_dnewK fun σ H Q h => by
  obtain ⟨O, G, ρ, hold, h⟩ := h
  intro p hp
  have tn := TrN.laid (G := G) (p := p) (o := .dK []) hold.sub hold.ntb hp
  exact h (.ref p) _ _ tn.tr (hold.trn tn) ⟨p, rfl, hp, hold.gnone hp, .inl ⟨[], upd_same, .nil⟩⟩
end

/-! ### dict(pairs) -/
def pairD : D → Option (D × D)
  | .tuple [k, e] => (tupKey k).map fun _ => (k, e)
  | _ => none
def pairsD : List D → Option (List (D × D))
  | [] => some []
  | d :: ds => (pairD d).bind fun p => (pairsD ds).map (p :: ·)
def dictOf (acc : List (D × D)) (kes : List (D × D)) : List (D × D) := kes.foldl (fun acc p => storeD acc p.1 p.2) acc
def pDictC : List D → Option Sl
  | [.list ds] => (pairsD ds).map fun kes => .own (.dct (dictOf [] kes))
  | _ => none
section
variable {X : Cx} {pins : List (Addr × Obj)} {σ : St} {G H : Hp} {s : Shared}
theorem pairs_n (I : Inv X pins σ H s) (sub : Same G H) : ∀ {vs : List V} {ds : List D} {its : List Value}, Reps (cnOf X) G vs ds → Vals vs its → ∀ kes, pairsD ds = some kes →
    ∃ (ps : List (Value × Value)) (hs : List (NestedKey × Addr × Value)) (xs : List (NestedKey × Addr × V)), ps.length = its.length ∧ (∀ (j : Nat) k v, ps[j]? = some (k, v) → ∃ T, its[j]? = some (.ref T) ∧ PairAt s.heap T k v) ∧
      hs.length = ps.length ∧ (∀ (j : Nat) k v, ps[j]? = some (k, v) → ∃ kk b, hs[j]? = some (kk, b, v) ∧ k = .ref b) ∧ PN xs hs ∧ RepsN (cnOf X) G xs kes ∧ (∀ y ∈ hs, (nestedKind X.prog X.w).is s.heap y.1 y.2.1)
  | _, [], _, r, v, kes, h => by
    cases r; cases v; cases h
    exact ⟨[], [], [], rfl, (fun j k v e => by simp at e), rfl, (fun j k v e => by simp at e), .nil, .nil, fun y hy => by cases hy⟩
  | _, d :: ds, _, r, v, kes, h => by
    cases r with
    | cons r1 r2 =>
      cases v with
      | cons v1 v2 =>
        simp only [pairsD] at h
        cases q : pairD d with
        | none => rw [q] at h; cases h
        | some p =>
        rw [q] at h
        cases q2 : pairsD ds with
        | none => rw [q2] at h; cases h
        | some kes' =>
        rw [q2] at h; cases h
        obtain ⟨ps, hs, xs, h1, h2, h3, h4, h5, h6, h7⟩ := pairs_n I sub r2 v2 kes' q2
        unfold pairD at q
        split at q
        rotate_left
        · cases q
        rename_i kd e
        cases q3 : tupKey kd with
        | none => rw [q3] at q; cases q
        | some kk =>
        rw [q3] at q; cases q
        cases r1 with
        | tup sq rs =>
          cases v1
          obtain ⟨it2, rv, p2, _⟩ := I.tuple (sqt_mono sub sq)
          cases rs with
          | cons a b =>
            cases b with
            | cons b b' =>
              cases b'
              obtain ⟨u1, u2, rfl, w1, w2⟩ := vals2 rv
              obtain ⟨bb, rfl, rfl, ki, rk⟩ := key_view (.inl a) I sub q3 w1
              refine ⟨(.ref bb, u2) :: ps, (kk, bb, u2) :: hs, (kk, bb, _) :: xs, by simp [h1], fun j k v e => ?_, by simp [h3], fun j k v e => ?_, .cons ⟨rfl, rfl, w2⟩ h5, ?_, fun y hy => ?_⟩
              · cases j with
                | zero => cases e; exact ⟨_, rfl, .inl p2⟩
                | succ j => simpa using h2 j k v (by simpa using e)
              · cases j with
                | zero => cases e; exact ⟨kk, bb, rfl, rfl⟩
                | succ j => simpa using h4 j k v (by simpa using e)
              · have hkd := (tupKey_some q3).2.2
                rw [← hkd]
                exact .cons (tupKey_some q3).2.1 rk b h6
              · rcases List.mem_cons.mp hy with rfl | hy
                · exact ki
                · exact h7 y hy
theorem dict_n {c : Cn} : ∀ {hs : List (NestedKey × Addr × Value)} {xs : List (NestedKey × Addr × V)} {kes : List (D × D)}, PN xs hs → RepsN c G xs kes →
    ∀ {ax : List (NestedKey × Addr × V)} {ay : List (NestedKey × Addr × Value)} {acc : List (D × D)}, PN ax ay → RepsN c G ax acc → ∃ xs', PN xs' (storedAllH ay hs) ∧ RepsN c G xs' (dictOf acc kes) ∧ xs'.length ≤ ax.length + xs.length
  | _, _, _, .nil, r, ax, ay, acc, p, q => by
    cases r
    exact ⟨ax, p, q, by simp⟩
  | y :: _, _, _, .cons h t, r, ax, ay, acc, p, q => by
    cases r with
    | cons l r1 r2 r3 =>
      rename_i b k v xs0 d kvs
      obtain ⟨h1, h2, h3⟩ := h
      simp only at h1 h2 h3
      obtain ⟨xs1, g1, g2, g3⟩ := store_n l r1 r2 h3 q p
      obtain ⟨xs', g4, g5, g6⟩ := dict_n t r3 g1 g2
      refine ⟨xs', ?_, g5, by simp only [List.length_cons]; omega⟩
      show PN xs' (storedAllH (storedH ay y.1 y.2.1 y.2.2) _)
      rw [← h1, ← h2]
      exact g4
theorem cr_dict (hc : X.calm = true) (hu : X.A.units + 64 < cLine) : CallR X (.type "dict") (rDN (cnOf X) pDictC) := by
  intro pins s σ H xs us Q I rs ⟨G, ds, r, sub, ntb, hv, hp, k⟩
  unfold pDictC at hp
  split at hp
  · rename_i ds
    cases q : pairsD ds with
    | none => rw [q] at hp; cases hp
    | some kes =>
    rw [q] at hp; cases hp
    obtain ⟨v, rfl, hv1⟩ := one_arg hv
    obtain ⟨l, vs, rfl, sv, rv⟩ := hv1.list sub
    obtain ⟨its, rvs, ⟨o, n, ho, hoc, hod, hdat⟩, hz⟩ := I.list sv
    rw [Vals.ref1 rs]
    obtain ⟨ps, hs, xs, h1, h2, h3, h4, h5, h6, h7⟩ := pairs_n I sub rv rvs kes q
    have hl := rvs.length
    obtain ⟨xs', g1, g2, g3⟩ := dict_n h5 h6 (ax := []) (ay := []) (acc := []) .nil .nil
    have hpl := h5.length
    have ok : PlainSeq "list" s.heap l its.toArray ∧ PairItems s.heap its.toArray (fun j => match its[j]? with | some (.ref t) => t | _ => 0) ps := by
      refine ⟨⟨o, n, ho, hoc, hod, hdat⟩, by simp [h1], fun j kk v e => ?_⟩
      obtain ⟨t, e1, e2⟩ := h2 j kk v e
      simp only [e1]
      exact ⟨by simpa using e1, e2⟩
    refine call_dict_pairsH (knd := nestedKind X.prog X.w) (ps := hs) (PairArg.list l its.toArray (fun j => match its[j]? with | some (.ref t) => t | _ => 0) ps) (I.ok.hd hc) (show X.A.units + 2 + 8 < cLine by omega) ok ⟨h3, fun i key v e => ?_⟩ (fun h' hk y hy => ?_) (by omega) fun h' tk hd hk => ?_
    · exact h4 i key v e
    · exact nestedKind_stays.stays (fun b o vs m e _ => hk b o (Nat.ne_of_lt (Heap.lt_size e)) (fun z => nomatch z) e) (h7 y hy)
    · have hm : (s.heap.objs.size == sysModules) = false := beq_eq_false_iff_ne.mpr (Nat.ne_of_gt I.big)
      have nd : NDict (cnOf X) s.heap.objs.size xs' h' := ndict_of hm (by simp at g3; omega) g1 hd
      refine ⟨.ref _, upd H s.heap.objs.size (.ext (NDict (cnOf X) s.heap.objs.size xs')), I.laid (t' := tk) (fun b o e => hk b o (fun z => nomatch z) e) (Nat.le_refl _) (ndict_ok nd), rfl, ?_⟩
      have hp : H s.heap.objs.size = none := I.hok.fresh (Nat.le_refl _)
      exact k _ _ _ (TrN.laid sub ntb hp) ⟨_, rfl, hp, gnone sub hp, .inr ⟨xs', upd_same, g2⟩⟩
  · cases hp
end
end Sd
set_option Elab.async false
set_option linter.all false
set_option maxRecDepth 100000
set_option maxHeartbeats 4000000
set_option autoImplicit false
/-! Sd: list(reversed(xs)), chains, parallel stores, stars. -/
namespace Sd
open PySem PySem.Spec PyProof.Rows L2

section
variable {prog : Program} {w : World} {A : Around} {E : Value → Shared → Prop} {s : Shared}
theorem listrev_extend {it l : Addr} {items : Array Value} {R : Result → Shared → Prop} (hh : A.handled = none) (hit : s.heap.IsRevIter it l ((items.size : Int) - 1)) (hl : s.heap.IsList l items) (hne : l ≠ it) (hn : items.size ≤ sizeLine) (S : Addr) (hSi : S ≠ it) (hSl : S ≠ l) (c₀ : Nat)
    (hS : s.heap.get? S = some { cls := .type "list", data := .seq #[] c₀ })
    (hR : ∀ h' tk acc' c', (∀ b o, b ≠ S → b ≠ it → s.heap.get? b = some o → h'.get? b = some o) → h'.get? S = some { cls := .type "list", dict := none, data := .seq acc' c', slots := #[] } → ItemsOf (fun i v => items[items.size - 1 - i]? = some v) acc' items.size → R (.ok (.ret .none)) { s with heap := h', toks := tk }) :
    wpAny (model prog w) A.in1 (Builtin.List.listExtendWith (.ref S) (.ref it) .none)
      (fun fin s' => match fin with | .done f => R (.ok f) s' | .again c' => c'.quiet = true ∧ codeAny (model prog w) A c' R s') (fun e s' => R (.error e) s') s := by
  have W := (Walks.listRev (prog := prog) (w := w) (A := A.in1) hh it l hne items).toS
  have hSf : S ∉ [it, l] := by simp only [List.mem_cons, List.not_mem_nil, or_false, not_or]; exact ⟨hSi, hSl⟩
  have hT : s.TypeIs (.ref it) "list_reverseiterator" := hit.typeIs
  have h1 : Builtin.List.listSameRef (.ref S) (.ref it) = false := by simp [Builtin.List.listSameRef, hSi]
  unfold Builtin.List.listExtendWith
  refine wpAny_bind (wpAny_typeOf hT ?_)
  rw [if_neg (by rw [h1]; decide)]
  refine wpAny_bind (wpAny_pyIter_revIter hit ?_)
  refine wpAny_bind (wpAny_holding ?_)
  unfold Builtin.List.listLengthHint
  refine wpAny_bind (wpAny_specialOf hT RT.nolen_lri ?_)
  show wpAny _ A.in1 (specialOf (Value.ref it) (Str.ofString "__length_hint__") >>= _) _ _ _
  refine wpAny_bind (wpAny_specialOf hT RT.hint_lri ?_)
  generalize hid : ("list_reverseiterator.__length_hint__" : String) = id0
  wp_delta
  rw [show splitId id0 = some ("list_reverseiterator", "__length_hint__") from by subst hid; decide +kernel]
  subst hid
  refine wpAny_bind (wpAny_isInstance (b := true) hT (by rw [isSubtype_type]; kernel_rfl) ?_)
  refine wpAny_pure ?_
  rw [if_neg (by decide)]
  have e0 : ((items.size : Nat) : Int) - 1 - ((0 : Nat) : Int) = (items.size : Int) - 1 := by omega
  refine wpAny_pure ⟨plainId_quiet F.plain_extend_loop _, codeAny_extend_loopS W hn _ hSf _ items.size 0 _ _ _ rfl (Nat.zero_le _) ⟨Nat.zero_le _, by rw [e0]; exact hit, hl⟩ hS (ItemsOf.nil _) fun s' acc' c' hm hS' hacc => ?_⟩
  rw [Moved.eq_with hm]
  refine hR s'.heap s'.toks acc' c' (fun b o hb hb2 e => hm.heap b o (fun hmem => ?_) e) hS' hacc
  rcases List.mem_cons.mp hmem with e' | hmem
  · exact hb e'
  · exact hb2 (List.mem_singleton.mp hmem)
theorem call_list_rev {it l : Addr} {items : Array Value} {Q : Value → Shared → Prop} (hh : A.handled = none) (hit : s.heap.IsRevIter it l ((items.size : Int) - 1)) (hl : s.heap.IsList l items) (hne : l ≠ it) (hn : items.size ≤ sizeLine)
    (hQ : ∀ (h' : Heap) (tk : Nat) (acc : Array Value) (c : Nat), (∀ b o, b ≠ it → s.heap.get? b = some o → h'.get? b = some o) → h'.get? s.heap.objs.size = some { cls := .type "list", dict := none, data := .seq acc c, slots := #[] } → ItemsOf (fun i v => items[items.size - 1 - i]? = some v) acc items.size →
      Q (.ref s.heap.objs.size) { s with heap := h', toks := tk }) : wpAny (model prog w) A (call (.type "list") [.ref it]) Q E s := by
  obtain ⟨oi, hoi, hoi2⟩ := id hit
  obtain ⟨ol, hol, hol2⟩ := id hl
  have hSi : s.heap.objs.size ≠ it := Nat.ne_of_gt (Heap.lt_size hoi)
  have hSl : s.heap.objs.size ≠ l := Nat.ne_of_gt (Heap.lt_size hol)
  refine callType_codes (Q₁ := fun obj s₁ => obj = .ref s.heap.objs.size ∧ s₁ = { s with heap := s.heap.push { cls := .type "list", data := .seq #[] } }) PySem.F.called_list (PySem.F.typeCall_list_1 _) PySem.F.entry_list_init
    (code_list_new _ ⟨rfl, rfl⟩) fun obj s₁ h₁ => ?_
  obtain ⟨rfl, rfl⟩ := h₁
  have hS : (s.heap.push { cls := .type "list", data := .seq #[] }).get? s.heap.objs.size = some { cls := .type "list", data := .seq #[] } := Heap.get?_push_size _ rfl
  refine ⟨⟨_, hS, rfl⟩, PySem.F.args_list_init_2 _ _, ?_⟩
  show wpAny _ _ (do let old ← Builtin.List.listItems (.ref s.heap.objs.size); Builtin.List.listUpdate (.ref s.heap.objs.size) (fun _ => #[]); letGo old.toList.reverse; Builtin.List.listExtendWith (.ref s.heap.objs.size) (.ref it) .none) _ _ _
  refine wpAny_bind ?_
  unfold Builtin.List.listItems
  refine wpAny_bind (wpAny_seqItems hS rfl (wpAny_pure ?_))
  show wpAny _ _ (updateSeq s.heap.objs.size (fun _ => #[]) >>= fun _ => letGo (#[] : Array Value).toList.reverse >>= fun _ => Builtin.List.listExtendWith (.ref s.heap.objs.size) (.ref it) .none) _ _ _
  refine wpAny_bind (wpAny_updateSeq hS rfl ?_)
  have hS₂ := Heap.get?_update_self (Obj.mapSeq (fun _ => (#[] : Array Value))) hS rfl
  have oth : ∀ b o, b ≠ s.heap.objs.size → s.heap.get? b = some o → ((s.heap.push { cls := .type "list", data := .seq #[] }).update s.heap.objs.size (Obj.mapSeq (fun _ => (#[] : Array Value)))).get? b = some o :=
    fun b o hb e => (Heap.get?_update_other _ _ (Ne.symm hb)).trans (Heap.get?_push_of_some _ e)
  refine wpAny_bind (wpAny_letGo ?_)
  refine listrev_extend (A := A.in1) hh (hit.at fun o e => oth it o hSi.symm e) ⟨ol, oth l ol hSl.symm hol, hol2⟩ hne hn s.heap.objs.size hSi hSl _ hS₂ fun h' tk acc' c' hk hS' hacc => ?_
  exact ⟨rfl, hQ h' tk acc' c' (fun b o hb e => hk b o (Nat.ne_of_lt (Heap.lt_size e)) hb (oth b o (Nat.ne_of_lt (Heap.lt_size e)) e)) hS' hacc⟩
theorem pick_rev (xs : Array Value) : ((List.range xs.size).filterMap fun (m : Nat) => xs[(((xs.size : Nat) : Int) - 1 + (m : Int) * -1).toNat]?).toArray = xs.toList.reverse.toArray := by
  have e : (fun (m : Nat) => xs[(((xs.size : Nat) : Int) - 1 + (m : Int) * -1).toNat]?) = (fun x => xs[x]?) ∘ fun m => xs.size - 1 - m := by
    funext m
    have : (((xs.size : Nat) : Int) - 1 + (m : Int) * -1).toNat = xs.size - 1 - m := by omega
    show xs[_]? = xs[_]?
    rw [this]
  rw [e, ← List.filterMap_map, PySem.W.krv_range, List.filterMap_reverse, PySem.W.krv_all]
theorem places_rev (n : Nat) : Builtin.Slice.slicePlaces ((n : Int) - 1) (-1) (-1) = n := by
  unfold Builtin.Slice.slicePlaces
  have h1 : ¬ ((-1 : Int) > 0) := by omega
  rw [if_neg h1]
  by_cases h : (n : Int) - 1 > -1
  · rw [if_pos h]
    have : ((n : Int) - 1 - -1 - 1) / (- -1) + 1 = (n : Int) := by
      rw [show (- -1 : Int) = 1 by rfl, Int.ediv_one]
      omega
    rw [this]
    exact Int.toNat_natCast n
  · rw [if_neg h]
    omega
theorem sliceApplied_rev {sl : Addr} {vl vu vs : Value} {n : Nat} {Q : Int × Int × Nat → Shared → Prop} (hs : s.heap.IsSliceOf sl vl vu vs) (pl : IsPart vl none) (pu : IsPart vu none) (ps : IsPart vs (some (-1)))
    (h : Q ((n : Int) - 1, -1, n) s) : wpAny (model prog w) A (Builtin.Slice.sliceApplied (.ref sl) (pure (n : Int))) Q E s := by
  obtain ⟨os, hos, hcs, hds⟩ := id hs
  unfold Builtin.Slice.sliceApplied Builtin.Slice.sliceFields
  refine wpAny_bind (wpAny_bind (wpAny_field hos hds (x := vl) rfl (wpAny_bind (wpAny_field hos hds (x := vu) rfl (wpAny_bind (wpAny_field hos hds (x := vs) rfl (wpAny_pure ?_)))))))
  refine wpAny_bind (HT.slicePart_ ps ?_)
  show wpAny _ _ (if ((-1 : Int) == 0) = true then _ else _) _ _ s
  rw [if_neg (by decide)]
  refine wpAny_bind (HT.slicePart_ pl (wpAny_bind (HT.slicePart_ pu (wpAny_bind (wpAny_pure ?_)))))
  show wpAny _ _ (pure ((n : Int) - 1, (-1 : Int), Builtin.Slice.slicePlaces ((n : Int) - 1) (-1) (-1))) _ _ s
  rw [places_rev]
  exact wpAny_pure h
theorem getItem_tuple_rev {t sl : Addr} {items : Array Value} {vl vu vs : Value} {Q : Value → Shared → Prop} (ht : IsTup s.heap t items) (hs : s.heap.IsSliceOf sl vl vu vs) (pl : IsPart vl none) (pu : IsPart vu none) (ps : IsPart vs (some (-1)))
    (h : Q (.ref s.heap.objs.size) { s with heap := s.heap.push { cls := .type "tuple", data := .seq items.toList.reverse.toArray } })
    (hsz : items.size ≤ sizeLine) : wpAny (model prog w) A (getItem (.ref t) (.ref sl)) Q E s := by
  have htake : sizeOk (.seq items.toList.reverse.toArray) := by
    show items.toList.reverse.toArray.size ≤ sizeLine
    simpa using hsz
  obtain ⟨os, hos, hcs, hds⟩ := id hs
  have hTs : s.TypeIs (.ref sl) "slice" := ⟨os, hos, hcs⟩
  unfold getItem
  try with_reducible refine wpAny_holding ?_
  first | refine wpAny_bind (wpAny_pure ?_) | skip
  refine wpAny_bind (wpAny_sequenceKey ht.typeIs (by decide) ?_)
  refine wpAny_bind (wpAny_callSpecial?_slot (name := Str.ofString "__getitem__") ht.typeIs PyProof.Rows.slot_tuple_getitem
    (wpAny_call_entry PyProof.Rows.slot_tuple_getitem ht.typeIs entry_tuple_getitem ?_ (args_tuple_getitem _ _)))
  show wpAny _ _ (Builtin.Tuple.tupleItemsOf (.ref t) >>= _) _ _ s
  refine wpAny_bind (tupleItemsOf_ ht ?_)
  refine wpAny_bind (wpAny_typeOf hTs ?_)
  rw [if_pos (by decide)]
  refine wpAny_bind (sliceApplied_rev hs pl pu ps ?_)
  have hno : ¬ ((((items.size : Int) - 1) == 0 && (-1 : Int) == 1 && items.size == items.size) = true) := by
    intro q
    rw [Bool.and_eq_true, Bool.and_eq_true] at q
    exact absurd q.1.2 (by decide)
  show wpAny _ _ (if ((((items.size : Int) - 1) == 0 && (-1 : Int) == 1 && items.size == items.size)) = true then _ else _) _ _ s
  rw [if_neg hno, pick_rev]
  first
    | exact wpAny_bind (m := Builtin.Tuple.tupleExact _) (wpAny_newObj_type (wpAny_pure ⟨_, rfl, wpAny_pure h⟩) htake)
    | exact wpAny_bind (m := Builtin.Tuple.tupleExact _) (wpAny_newObj_type (wpAny_bind (wpAny_pure (wpAny_pure ⟨_, rfl, wpAny_pure h⟩))) htake)
    | exact wpAny_bind (wpAny_bind (m := Builtin.Tuple.tupleExact _) (wpAny_newObj_type (wpAny_pure (wpAny_pure ⟨_, rfl, wpAny_pure h⟩)) htake))
    | exact wpAny_bind (wpAny_bind (m := Builtin.Tuple.tupleExact _) (wpAny_newObj_type (wpAny_pure ⟨_, rfl, wpAny_pure h⟩) htake))
end
section
variable {X : Cx} {T : Fx} {W : WX} {e a b d : Expr} {A B C : Opd} {p p2 pos pos2 : Pos}
/-- list(reversed(x)), x a list -/
def tListRev (K : PySem.W.Frag) (te : TE) : TE := fun σ H Q => te σ H fun v H1 => ∃ (a : Addr) (xs : List V), v = .ref a ∧ SqL K H1 a xs ∧ ∀ q, H1 q = none → Q (.ref q) (upd H1 q (.lst xs.reverse))
theorem pe_listRev {te : TE} (hc : X.calm = true) (hg : Gl X "list") (hm : X.mg "list" = none) (hg2 : Gl X "reversed") (hm2 : X.mg "reversed" = none) (he : PE X e te)
    (hs : starEach [e] X.env = (false, eval e X.env) :: starEach [] X.env)
    (hs2 : starEach [.Call (.Name "reversed" p2) [e] [] pos2] X.env = (false, eval (.Call (.Name "reversed" p2) [e] [] pos2) X.env) :: starEach [] X.env := by rfl) :
    PE X (.Call (.Name "list" p) [.Call (.Name "reversed" p2) [e] [] pos2] [] pos) (tListRev X.K te) := by
  refine ⟨fun pins s σ H Q I h => ?_⟩
  refine Call_ (ld_blt I hg hm boot_list (PyProof.Rows.callWith_type1 (args_cons (Call_ (ld_blt I hg2 hm2 PyProof.Rows.boot_reversed (PyProof.Rows.callWith_type1 (args_cons (thn (he.run pins s σ H _ I h) fun u s1 ⟨v, H1, I1, r1, q1⟩ => args_nil ?_) hs) hs rfl))) hs2) hs2 rfl))
  obtain ⟨a, xs, ev, hq, q⟩ := q1
  subst ev
  obtain rfl : u = Value.ref a := r1
  obtain ⟨its, rv, p', hz⟩ := I1.list hq
  refine call_reversed_list p'.isList (args_nil ?_)
  have k0 : ∀ b o, s1.heap.get? b = some o → (s1.heap.push (revObj a ((its.toArray.size : Int) - 1))).get? b = some o := fun b o e => Heap.get?_push_of_some _ e
  have I2 : Inv X pins σ H1 { s1 with heap := s1.heap.push (revObj a ((its.toArray.size : Int) - 1)) } := I1.kept (t' := s1.toks) k0
  obtain ⟨f0, f1, f2, f3, f4, f5⟩ := I1.fpOk (H' := H1) (b := s1.heap.objs.size) (Nat.le_refl _) (I1.hok.fresh (Nat.le_refl _))
  have hl := p'.isList
  obtain ⟨ol, hol, _⟩ := id hl
  have hne : a ≠ s1.heap.objs.size := Nat.ne_of_lt (Heap.lt_size hol)
  have hn : its.toArray.size ≤ sizeLine := by rw [List.size_toArray, ← rv.length]; exact hz
  have hsz : (s1.heap.push (revObj a ((its.toArray.size : Int) - 1))).objs.size = s1.heap.objs.size + 1 := Heap.size_push _ _
  refine call_list_rev (s := { s1 with heap := s1.heap.push (revObj a ((its.toArray.size : Int) - 1)) }) (I1.ok.hd hc) ⟨_, Heap.get?_push_size _ rfl, rfl, rfl⟩ (hl.push _) hne hn fun h' tk acc c hk hS hi => ?_
  have I3 : Inv X pins σ H1 { s1 with heap := h', toks := tk } := I2.turned (t' := tk) (fun b o hb e => hk b o hb e) f0 f1 f3 f4 f5
  have hnew : H1 (s1.heap.push (revObj a ((its.toArray.size : Int) - 1))).objs.size = none := I2.hok.fresh (Nat.le_refl _)
  refine ⟨.ref _, upd H1 (s1.heap.push (revObj a ((its.toArray.size : Int) - 1))).objs.size (.lst xs.reverse), ?_, rfl, q _ hnew⟩
  exact I3.take (t' := tk) (h' := h') (fun _ _ _ e => e) (I2.fpOk (Nat.le_refl _) hnew) (show ObjOk X.prog X.w _ _ _ (.lst xs.reverse) from ⟨by rw [List.length_reverse]; exact hz, acc.toList, c, RT.vals_rev rv hi, by rw [Array.toArray_toList]; exact hS⟩)
def pRevL : D → Option Sl
  | .list xs => some (.own (.lst xs.reverse))
  | _ => none
theorem pe_listRevD (hc : X.calm = true) (hg : Gl X "list") (hm : X.mg "list" = none) (hg2 : Gl X "reversed") (hm2 : X.mg "reversed" = none) (he : PO' X T W e A) (hs : noStar e = true) :
    PE X (.Call (.Name "list" p) [.Call (.Name "reversed" p2) [e] [] pos2] [] pos) (dT (cnOf X) T W (sOp1 pRevL A)) :=
  impPE (pe_listRev hc hg hm hg2 hm2 he.pe (starEach_cons hs)) fun σ H Q h => opd1 h fun G1 H1 v d r hv hs g1 g2 k => by
    cases d <;> first | (cases hs; done) | skip
    cases hs
    obtain ⟨l, vs, rfl, sv, rv⟩ := hv.list g1
    exact ⟨l, vs, rfl, sv, fun q hq => k_lst g1 g2 k rv.reverse hq⟩

/-! ### x[::-1] of lists and tuples -/
theorem pe_revLT {te : TE} {k : Nat} {p1 p3 : Pos} (he : PE X e te) : PE X (.Subscript e (.Slice none none (some (.UnaryOp .USub (.Constant (.int 1) k p1) p2)) p3) pos) (fun σ H Q => te σ H fun x H1 => ∃ a xs, x = .ref a ∧
    ((SqL X.K H1 a xs ∧ ∀ p, H1 p = none → Q (.ref p) (upd H1 p (.lst xs.reverse))) ∨ (SqT X.K H1 a xs ∧ ∀ p, H1 p = none → Q (.ref p) (upd H1 p (.tup xs.reverse))))) := by
  refine ⟨fun pins s σ H Q I h => ?_⟩
  refine Subscript_ (thn (he.run pins s σ H _ I h) fun v s1 ⟨x, H1, I1, r1, q1⟩ => ?_)
  obtain ⟨a, xs, ex, hq⟩ := q1
  subst ex
  cases r1
  have hst : PO X (some (.UnaryOp .USub (.Constant (.int 1) k p1) p2)) (tPart (tUn (rU fun i => .int (-i)) (tC (.int 1)))) := po_some (pe_un un_neg pe_int)
  refine wpAny_Slice (thn (po_none.run pins s1 σ H1 (fun o H2 => o = none ∧ H2 = H1) I1 ⟨rfl, rfl⟩) fun vl s2 ⟨l, H2, I2, pl, el, e2⟩ => ?_)
  subst el e2
  refine thn (po_none.run pins s2 σ H2 (fun o H3 => o = none ∧ H3 = H2) I2 ⟨rfl, rfl⟩) fun vu s3 ⟨u, H3, I3, pu, eu, e3⟩ => ?_
  subst eu e3
  refine thn (hst.run pins s3 σ H3 (fun o H4 => o = some (-1) ∧ H4 = H3) I3 ⟨1, rfl, -1, rfl, rfl, rfl⟩) fun vs s4 ⟨o, H4, I4, ps, eo, e4⟩ => ?_
  subst eo e4
  have I5 : Inv X pins σ H4 { s4 with heap := s4.heap.push { cls := .type "slice", data := .fields #[vl, vu, vs] } } := I4.kept (t' := s4.toks) fun b ob q => Heap.get?_push_of_some _ q
  show wpAny (model X.prog X.w) X.A (subscriptTail e (.Slice none none (some (.UnaryOp .USub (.Constant (.int 1) k p1) p2)) p3) (.ref a) (.ref s4.heap.objs.size)) (EP X pins σ Q) X.xe { s4 with heap := s4.heap.push { cls := .type "slice", data := .fields #[vl, vu, vs] } }
  rcases hq with ⟨hx, q⟩ | ⟨hx, q⟩
  · obtain ⟨its, r, ht, hz⟩ := I5.list hx
    have hlen := r.length
    refine tail_any (ops := [.ref a, .ref s4.heap.objs.size]) ht.isList.typeIs (PySem.slot_list_getitem.lookup) ?_ (by with_unfolding_all rfl)
    refine wpAny_getItem_list_slice ht.isList (Heap.IsSliceOf.new _ vl vu vs) pl pu ps (by decide) ?_ (by rw [List.size_toArray]; omega)
    rw [PySem.W.krv_pick]
    refine ⟨.ref _, _, I5.laid (t' := s4.toks) (o := .lst xs.reverse) (fun b ob q => Heap.get?_push_of_some _ q) (Nat.le_refl _) ?_, rfl, q _ (I5.hok.fresh (Nat.le_refl _))⟩
    exact ⟨by rw [List.length_reverse]; exact hz, _, 0, r.reverse, Heap.get?_push_size _ rfl⟩
  · obtain ⟨its, r, ht, hz⟩ := I5.tuple hx
    have hlen := r.length
    refine tail_any (ops := [.ref a, .ref s4.heap.objs.size]) ht.typeIs (PyProof.Rows.slot_tuple_getitem.lookup) ?_ (by with_unfolding_all rfl)
    refine getItem_tuple_rev ht (Heap.IsSliceOf.new _ vl vu vs) pl pu ps ?_ (by rw [List.size_toArray]; omega)
    refine ⟨.ref _, _, I5.laid (t' := s4.toks) (o := .tup xs.reverse) (fun b ob q => Heap.get?_push_of_some _ q) (Nat.le_refl _) ?_, rfl, q _ (I5.hok.fresh (Nat.le_refl _))⟩
    exact ⟨by rw [List.length_reverse]; exact hz, _, r.reverse, IsTup.new _ _⟩
def pRev : D → Option Sl
  | .list xs => some (.own (.lst xs.reverse))
  | .tuple xs => some (.val (.tuple xs.reverse))
  | _ => none
theorem pe_revD {k : Nat} {p1 p3 : Pos} (he : PO' X T W e A) : PE X (.Subscript e (.Slice none none (some (.UnaryOp .USub (.Constant (.int 1) k p1) p2)) p3) pos) (dT (cnOf X) T W (sOp1 pRev A)) := by
  refine ⟨fun pins s σ H Q I h => ?_⟩
  have h0 := h
  -- which of the two it is, is known only behind the operand: both rules are asked for at once
  refine (pe_revLT he.pe).run pins s σ H Q I ?_
  exact opd1 h fun G1 H1 v d r hv hs g1 g2 k => by
    cases d <;> first | (cases hs; done) | skip
    · cases hs
      obtain ⟨l, vs, rfl, sv, rv⟩ := hv.list g1
      exact ⟨l, vs, rfl, .inl ⟨sv, fun q hq => k_lst g1 g2 k rv.reverse hq⟩⟩
    · cases hs
      obtain ⟨l, vs, rfl, sv, rv⟩ := hv.tuple g1
      exact ⟨l, vs, rfl, .inr ⟨sqt_mono g1 sv, fun q hq => k_tup g1 g2 k rv.reverse hq⟩⟩
end
end Sd
set_option Elab.async false
set_option linter.all false
set_option maxRecDepth 100000
set_option maxHeartbeats 4000000
set_option autoImplicit false
/-! Sd: chains, parallel stores, stars. -/
namespace Sd
open PySem PySem.Spec PyProof.Rows L2

/-- a op1 b op2 c -/
def sCh (p p' : D → D → Option Sl) (A B C : Opd) : M Sl := fun ρ => (A.ph1 ρ).bind fun x ρ1 => (B.ph1 ρ1).bind fun y ρ2 => match ((A.ph2 x ρ2).bind fun d => (B.ph2 y ρ2).bind (p d)).bind boolD with
  | none => .bad
  | some false => .ok (.val (.bool false)) ρ2
  | some true => (C.ph1 ρ2).bind fun z ρ3 => Res.ofO ((B.ph2 y ρ3).bind fun d => (C.ph2 z ρ3).bind (p' d)) ρ3
section
variable {X : Cx} {T : Fx} {W : WX} {e a b c : Expr} {es : List Expr} {A B C : Opd} {p p' : D → D → Option Sl} {pos : Pos} {f g : M Sl} {as : M (List D)}
theorem imp_ch {cn : Cn} {σ : St} {H : Hp} {Q : VK} (h : dT cn T W (sCh p p' A B C) σ H Q) : tChain (rD cn p) (rD cn p') (tO cn T W A) (tO cn T W B) (tO cn T W C) σ H Q := by
  obtain ⟨O, G, ρ, hold, h⟩ := h
  unfold sCh at h
  refine opd_step hold ?_
  cases e1 : A.ph1 ρ with
  | bad => rw [e1] at h; exact h
  | exc x ρ' => rw [e1] at h; exact h
  | ok x ρ1 =>
    rw [e1] at h
    simp only [Res.bind_ok] at h
    intro v G1 H1 tr1 hold1 ov1
    refine opd_step hold1 ?_
    cases e2 : B.ph1 ρ1 with
    | bad => rw [e2] at h; exact h
    | exc x ρ' => rw [e2] at h; exact fun G' H' tr hd => h G' H' (tr1.trans' tr) hd
    | ok y ρ2 =>
      rw [e2] at h
      simp only [Res.bind_ok] at h
      intro w G2 H2 tr2 hold2 ov2
      cases q1 : A.ph2 x ρ2 with
      | none => rw [q1] at h; exact h.elim
      | some d =>
      cases q2 : B.ph2 y ρ2 with
      | none => rw [q1, q2] at h; exact h.elim
      | some e =>
      rw [q1, q2] at h
      simp only [Option.bind_some] at h
      cases q3 : p d e with
      | none => rw [q3] at h; exact h.elim
      | some r =>
      rw [q3] at h
      simp only [Option.bind_some] at h
      cases q4 : boolD r with
      | none => rw [q4] at h; exact h.elim
      | some k =>
      rw [q4] at h
      refine ⟨G2, d, e, r, hold2.sub, hold2.ntb, (ov1.mono tr2.g).view hold2 q1, ov2.view hold2 q2, q3, fun u G3 H3 tn rr => ?_⟩
      rw [boolD_some q4] at rr
      cases rr
      refine ⟨k, rfl, ?_⟩
      have hold3 := hold2.trn tn
      have tr3 := (tr1.trans' tr2).trans' tn.tr
      cases k with
      | false => exact h _ G3 H3 tr3 hold3 (.bl false)
      | true =>
        rw [if_pos rfl]
        simp only at h
        refine opd_step hold3 ?_
        cases e3 : C.ph1 ρ2 with
        | bad => rw [e3] at h; exact h
        | exc x ρ' => rw [e3] at h; exact fun G' H' tr hd => h G' H' (tr3.trans' tr) hd
        | ok z ρ3 =>
          rw [e3] at h
          simp only [Res.bind_ok] at h
          intro w3 G4 H4 tr4 hold4 ov3
          cases q5 : B.ph2 y ρ3 with
          | none => rw [q5] at h; exact h.elim
          | some d' =>
          cases q6 : C.ph2 z ρ3 with
          | none => rw [q5, q6] at h; exact h.elim
          | some e' =>
          rw [q5, q6] at h
          simp only [Option.bind_some] at h
          cases q7 : p' d' e' with
          | none => rw [q7] at h; exact h.elim
          | some r' =>
          rw [q7] at h
          refine ⟨G4, d', e', r', hold4.sub, hold4.ntb, ((ov2.mono tn.g).mono tr4.g).view hold4 q5, ov3.view hold4 q6, q7, fun u5 G5 H5 tn5 rr5 => ?_⟩
          exact h u5 G5 H5 ((tr3.trans' tr4).trans' tn5.tr) (hold4.trn tn5) (rr5.back (tr3.trans' tr4).d)
theorem pe_chD {op op' : CmpOp} (ho : OpR X (compareOp op) (rD (cnOf X) p)) (ho' : OpR X (compareOp op') (rD (cnOf X) p')) (hm : lastMarks [op, op'] [b, c] = false) (ha : PO' X T W a A) (hb : PO' X T W b B) (hc : PO' X T W c C) :
    PE X (.Compare a [op, op'] [b, c] pos) (dT (cnOf X) T W (sCh p p' A B C)) := impPE (pe_chain ho ho' ha.pe hb.pe hc.pe hm) fun σ H Q h => imp_ch h
theorem pt_chD {op op' : CmpOp} (ho : OpR X (compareOp op) (rD (cnOf X) p)) (ho' : OpR X (compareOp op') (rD (cnOf X) p')) (hm : lastMarks [op, op'] [b, c] = false) (ha : PO' X T W a A) (hb : PO' X T W b B) (hc : PO' X T W c C) :
    PT X (.Compare a [op, op'] [b, c] pos) (dB (cnOf X) T W (bVal (sCh p p' A B C))) := impPT (pt_chain ho ho' ha.pe hb.pe hc.pe hm) fun σ H Q h => imp_ch (imp_val h)
theorem pt_cmpD {op : CmpOp} (ho : OpR X (compareOp op) (rD (cnOf X) p)) (hm : behindInMarks op b = false) (ha : PO' X T W a A) (hb : PO' X T W b B) : PT X (.Compare a [op] [b] pos) (dB (cnOf X) T W (bVal (sOp2 p A B))) :=
  impPT (pt_cmpR ho ha.pe hb.pe hm) fun σ H Q h => by
    have h' := imp_val h
    exact opd2 h' fun O G ρ G1 H1 v w d e s _ _ hv hw hs g1 g2 k => op2_rD _ p G1 H1 v w d e s _ g1 g2 hv hw hs k
/-! stars -/
theorem pa_sD {p0 : Pos} (ha : PE X e (dT (cnOf X) T W f)) (hr : PA X es (dA (cnOf X) T W as)) : PA X (.Starred e p0 :: es) (dA (cnOf X) T W (aS f as)) :=
  impPA (StX.pa_star ha hr rfl) fun σ H Q h => by
    obtain ⟨O, G, ρ, hold, h⟩ := h
    refine ⟨O, G, ρ, hold, ?_⟩
    unfold aS at h
    cases q : f ρ with
    | bad => rw [q] at h; exact h
    | exc x ρ' => rw [q] at h; exact h
    | ok r ρ1 =>
      rw [q] at h
      simp only [Res.bind_ok] at h
      intro v G1 H1 t1 hold1 rr
      obtain ⟨G2, s2, t2, hold2, r2⟩ := hold1.frzR hold.oin t1 rr
      cases q2 : r.frz with
      | list ds =>
        rw [q2] at h r2
        simp only [seqD] at h
        cases r2 with
        | lst sq rs =>
          refine ⟨_, _, rfl, .inr (Same.seq hold2.sub sq), O, G2, ρ1, hold2, ?_⟩
          have h' := WtA.later t2 h
          cases q3 : as ρ1 with
          | bad => rw [q3] at h'; exact h'
          | exc x ρ' => rw [q3] at h'; exact h'
          | ok es ρ2 =>
            rw [q3] at h'
            exact fun vs G3 H3 t3 hold3 rs3 => h' _ G3 H3 t3 hold3 ((rs.mono t3.g).append rs3)
      | tuple ds =>
        rw [q2] at h r2
        simp only [seqD] at h
        cases r2 with
        | tup sq rs =>
          refine ⟨_, _, rfl, .inl (sqt_mono hold2.sub sq), O, G2, ρ1, hold2, ?_⟩
          have h' := WtA.later t2 h
          cases q3 : as ρ1 with
          | bad => rw [q3] at h'; exact h'
          | exc x ρ' => rw [q3] at h'; exact h'
          | ok es ρ2 =>
            rw [q3] at h'
            exact fun vs G3 H3 t3 hold3 rs3 => h' _ G3 H3 t3 hold3 ((rs.mono t3.g).append rs3)
      | _ => rw [q2] at h; exact h.elim
end
/-! ### x, y = a, b -/
def setS (i : Nat) (r : Sl) (ρ : Ev) : Ev := ρ.set i (some r)
def mPar2 (i j : Nat) (f g : M Sl) : MS := fun ρ => (f ρ).out fun r ρ1 => (g ρ1).out fun s ρ2 => .nx ((ρ2.set i (some r)).set j (some s))
/-- a result stays one -/
theorem RepR.keep {c : Cn} {T : Fx} {O : Addr → Prop} {H0 G H G' H' : Hp} {σ : St} {ρ : Ev} {v : V} {r : Sl} (q : RepR c H0 G H v r) (h0 : ∀ a, O a → H0 a ≠ none) (t : Tr O G H G' H') : RepR c H0 G' H' v r := by
  cases r with
  | val d => exact Rep.mono t.g q
  | own o =>
    obtain ⟨a, rfl, n0, hg, ob⟩ := q
    obtain ⟨u, hu, ht, _⟩ := ob.there
    have hO : ¬ O a := fun z => h0 a z n0
    refine ⟨a, rfl, n0, ?_, ob.mono t.g ((t.k a u hu hO ht).trans hu.symm)⟩
    cases z : G' a with
    | none => rfl
    | some w =>
      rcases t.n a w z with y | y | y
      · rw [hg] at y; cases y
      · rw [hu] at y; cases y
      · exact (hO y).elim
/-- a store of a result -/
theorem Hold.setR {c : Cn} {T : Fx} {O : Addr → Prop} {G H H0 : Hp} {σ : St} {ρ : Ev} {i : Nat} {v : V} {r : Sl} (h : Hold c T O G σ H ρ) (hi : i < σ.length) (hO : ∀ a, v = .ref a → (∃ o, r = .own o) → ¬ O a) (q : RepR c H0 G H v r) (hL : ∀ p ∈ T.L, p.1 ≠ i) :
    ∃ O' : Addr → Prop, (∀ a, O' a → O a ∨ H0 a = none) ∧ (∀ a, O' a → O a ∨ (v = .ref a ∧ ∃ o, r = .own o)) ∧ Hold c T O' G (σ.set i (some v)) H (ρ.set i (some r)) := by
  cases r with
  | val d => exact ⟨O, fun _ z => .inl z, fun _ z => .inl z, h.setV q hL⟩
  | own o =>
    obtain ⟨a, rfl, n0, hg, ob⟩ := q
    exact ⟨fun x => O x ∨ x = a, fun x hx => hx.elim .inl fun z => by rw [z]; exact .inr n0, fun x hx => hx.elim .inl fun z => by rw [z]; exact .inr ⟨rfl, _, rfl⟩, h.setO hi (hO a rfl ⟨_, rfl⟩) hg ob hL⟩
section
variable {X : Cx} {T : Fx} {W : WX} {a b : Expr} {i j : Nat} {f g : M Sl} {x y : Str} {px py pt pos pt2 : Pos} {kt k2 : Nat}
/-- the two values -/
def tPair (c : Cn) (T : Fx) (W : WX) (f g : M Sl) : TA := tCons (dT c T W f) (tCons (dT c T W g) tNil)
theorem imp_par {c : Cn} {E : Ends} {σ : St} {H : Hp} (hi : i < σ.length) (hj : j < σ.length) (hLi : ∀ p ∈ T.L, p.1 ≠ i) (hLj : ∀ p ∈ T.L, p.1 ≠ j) (h : dS c T W (mPar2 i j f g) E σ H) : tPar i j (tPair c T W f g) E σ H := by
  obtain ⟨O, G, ρ, hold, h⟩ := h
  refine ⟨O, G, ρ, hold, ?_⟩
  unfold mPar2 at h
  cases q : f ρ with
  | bad => rw [q] at h; exact h
  | exc x ρ' => rw [q] at h; exact fun G' H' tr hd => h O G' σ H' (fun _ z => .inl z) tr hd
  | ok r ρ1 =>
  rw [q] at h
  simp only [Res.out_ok] at h
  intro v G1 H1 t1 hold1 rv
  refine ⟨O, G1, ρ1, hold1, ?_⟩
  cases q2 : g ρ1 with
  | bad => rw [q2] at h; exact h
  | exc x ρ' => rw [q2] at h; exact fun G' H' tr hd => h O G' σ H' (fun _ z => .inl z) (t1.trans' tr) hd
  | ok s ρ2 =>
  rw [q2] at h
  simp only [Res.out_ok] at h
  intro w G2 H2 t2 hold2 rw_
  refine ⟨v, w, rfl, ?_⟩
  have rv2 : RepR c H G2 H2 v r := RepR.keep (T := T) (σ := σ) (ρ := ρ) rv hold.oin t2
  have rw2 : RepR c H G2 H2 w s := rw_.back t1.d
  have hO : ∀ {v : V} {r : Sl}, RepR c H G2 H2 v r → ∀ a, v = .ref a → (∃ o, r = .own o) → ¬ O a := fun {v r} q a e1 ⟨o, e2⟩ z => by
    subst e2
    obtain ⟨a', e3, n0, _⟩ := q
    rw [e1] at e3; cases e3
    exact hold.oin a z n0
  obtain ⟨O1, o1, o1', hd1⟩ := hold2.setR hi (hO rv2) rv2 hLi
  have hO2 : ∀ a, w = .ref a → (∃ o, s = .own o) → ¬ O1 a := fun a e1 ⟨o, e2⟩ z => by
    rcases o1' a z with z | ⟨e3, o', e4⟩
    · exact hO rw2 a e1 ⟨o, e2⟩ z
    · subst e2
      subst e4
      obtain ⟨a1, e5, n1, _⟩ := rw_
      rw [e1] at e5; cases e5
      obtain ⟨a2, e6, n2, _, ob⟩ := rv
      rw [e3] at e6; cases e6
      obtain ⟨u, hu, _⟩ := ob.there
      rw [n1] at hu; cases hu
  obtain ⟨O2, o2, _, hd2⟩ := hd1.setR (H0 := H) (by rw [List.length_set]; exact hj) hO2 rw2 hLj
  exact h O2 G2 _ H2 (fun a z => (o2 a z).elim (o1 a) .inr) (t1.trans' t2) hd2
theorem ps_par2D (hc : X.calm = true) (hN : X.N.Nodup) (hi : X.N[i]? = some x) (hj : X.N[j]? = some y) (hij : i ≠ j) (hx : X.env.scope.names.lookup x = some .local) (hy : X.env.scope.names.lookup y = some .local) (hLi : ∀ p ∈ T.L, p.1 ≠ i) (hLj : ∀ p ∈ T.L, p.1 ≠ j)
    (ha : PE X a (dT (cnOf X) T W f)) (hb : PE X b (dT (cnOf X) T W g)) (hsa : noStar a = true) (hsb : noStar b = true)
    (hw : swappedStores [.Tuple [.Name x px, .Name y py] kt pt] (.Tuple [a, b] k2 pt2) X.env = pure (some [x, y]))
    (hs : swapsWithSole [.Tuple [.Name x px, .Name y py] kt pt] (.Tuple [a, b] k2 pt2) pos.line X.env = pure false := by rfl) :
    PS X (.Assign [.Tuple [.Name x px, .Name y py] kt pt] (.Tuple [a, b] k2 pt2) pos) (dS (cnOf X) T W (mPar2 i j f g)) :=
  impPSL (ps_par hc hN hi hj hij hx hy (pa_cons ha (pa_cons hb pa_nil (starEach_cons hsb)) (starEach_cons hsa)) hw hs) fun E σ H hl h => imp_par (by rw [hl]; exact lt_of_get hi) (by rw [hl]; exact lt_of_get hj) hLi hLj h
end
end Sd
set_option Elab.async false
set_option linter.all false
set_option maxRecDepth 100000
set_option maxHeartbeats 4000000
set_option autoImplicit false
/-! Sd: for over a name; small helps. -/
namespace Sd
open PySem PySem.Spec PyProof.Rows L2

open Classical in
noncomputable def forItemsO (i : Nat) (t : Tgt) (body : MS) (L : List D) : List D → MS
  | [] => fun ρ => .nx ρ
  | d :: ds => fun ρ => if ρ[i]? = some (some (.own (.lst L))) then (match assignT t d ρ with
    | some ρ1 => (body ρ1).turn (fun ρ2 => if ρ2[i]? = some (some (.own (.lst L))) then forItemsO i t body L ds ρ2 else .bad)
    | none => .bad) else .bad
noncomputable def mForO (i : Nat) (t : Tgt) (body : MS) : MS := fun ρ => match ρ[i]? with
  | some (some (.own (.lst L))) => forItemsO i t body L L ρ
  | _ => .bad
def Fx.pin (T : Fx) (i : Nat) (a : Addr) : Fx := ⟨T.tabs, (i, a) :: T.L⟩
theorem Hold.pin {c : Cn} {T : Fx} {O : Addr → Prop} {G H : Hp} {σ : St} {ρ : Ev} {i : Nat} {a : Addr} (h : Hold c T O G σ H ρ) (e : σ[i]? = some (some (.ref a))) : Hold c (T.pin i a) O G σ H ρ :=
  ⟨h.sub, h.ntb, h.oin, h.tab, fun p hp => by
    rcases List.mem_cons.mp hp with rfl | hp
    · exact e
    · exact h.lnt p hp, h.len, h.slot, h.apart⟩
theorem Hold.unpin {c : Cn} {T : Fx} {O : Addr → Prop} {G H : Hp} {σ : St} {ρ : Ev} {i : Nat} {a : Addr} (h : Hold c (T.pin i a) O G σ H ρ) : Hold c T O G σ H ρ :=
  ⟨h.sub, h.ntb, h.oin, h.tab, fun p hp => h.lnt p (List.mem_cons_of_mem _ hp), h.len, h.slot, h.apart⟩
theorem WtS.unpin {c : Cn} {T : Fx} {W : WX} {O : Addr → Prop} {G H : Hp} {σ : St} {i : Nat} {a : Addr} {x : Out} {E : Ends} (h : WtS c T W O G σ H x E) : WtS c (T.pin i a) W O G σ H x E := by
  cases x with
  | nx ρ' => exact fun O' G' σ' H' ho t hd => h O' G' σ' H' ho t hd.unpin
  | bk ρ' => exact fun O' G' σ' H' ho t hd => h O' G' σ' H' ho t hd.unpin
  | ct ρ' => exact fun O' G' σ' H' ho t hd => h O' G' σ' H' ho t hd.unpin
  | exc e ρ' => exact fun O' G' σ' H' ho t hd => h O' G' σ' H' ho t hd.unpin
  | rt r ρ' =>
    refine fun v O' G' σ' H' ho t hd rr => h v O' G' σ' H' ho t hd.unpin ?_
    cases r with
    | val d => exact rr
    | own o =>
      obtain ⟨b, e, h1, h2⟩ := rr
      exact ⟨b, e, h1.imp id fun z => absurd z.1 (by simp [Fx.pin]), h2⟩
  | bad => exact h
section
variable {T : Fx} {W : WX} {m : MS} {i : Nat}
theorem imp_forO {c : Cn} {tt : Tgt} {E : Ends} {σ : St} {H : Hp} {O : Addr → Prop} {G : Hp} {ρ : Ev} {L : List D} {a : Addr} (hold : Hold c T O G σ H ρ) (hL : ρ[i]? = some (some (.own (.lst L)))) (ea : σ[i]? = some (some (.ref a))) (hi : i ∉ tt.slots) (h : WtS c T W O G σ H (forItemsO i tt m L L ρ) E) :
    tFor (iList c.K (tVar i)) (dG c (T.pin i a) tt) (dS c (T.pin i a) W m) E σ H := by
  obtain ⟨a0, ea0, hO, hg, vs, hvs, rvs⟩ := hold.at_own hL
  rw [ea] at ea0; cases ea0
  refine ⟨.ref a, ea, a, rfl, ⟨vs, .of hvs⟩, ?_⟩
  refine ⟨fun j k σ' H' => k = L.length - j ∧ j ≤ L.length ∧ ∃ O' G' ρ', Hold c (T.pin i a) O' G' σ' H' ρ' ∧ ρ'[i]? = some (some (.own (.lst L))) ∧ WtS c (T.pin i a) W O' G' σ' H' (forItemsO i tt m L (L.drop j) ρ') E,
    ⟨L.length, by simp, Nat.zero_le _, O, G, ρ, hold.pin ea, hL, by simpa using h.unpin⟩, ?_⟩
  rintro j k σ' H' ⟨rfl, hj, O', G', ρ', hold', hL', h'⟩
  obtain ⟨a', ea2, hO', hg', vs', hvs', rvs'⟩ := hold'.at_own hL'
  have ea' : σ'[i]? = some (some (.ref a)) := hold'.lnt (i, a) (List.mem_cons_self)
  rw [ea'] at ea2; cases ea2
  by_cases hlt : j < L.length
  · right
    obtain ⟨v, ev, rv⟩ := rvs'.get j (List.getElem?_eq_getElem hlt)
    refine ⟨⟨vs', v, .of hvs', ev⟩, ?_⟩
    have hd : L.drop j = L[j] :: L.drop (j + 1) := List.drop_eq_getElem_cons hlt
    rw [hd] at h'
    simp only [forItemsO] at h'
    rw [if_pos hL'] at h'
    refine ⟨fun σ2 H2 => ∃ O2 G2 ρ2, Hold c (T.pin i a) O2 G2 σ2 H2 ρ2 ∧ ρ2[i]? = some (some (.own (.lst L))) ∧ WtS c (T.pin i a) W O2 G2 σ2 H2 (forItemsO i tt m L (L.drop (j + 1)) ρ2) E,
      fun σ2 H2 ⟨O2, G2, ρ2, a, b, c⟩ => ⟨L.length - (j + 1), by omega, rfl, hlt, O2, G2, ρ2, a, b, c⟩, ?_⟩
    rintro x H2 ⟨rfl, y2⟩
    have exv : x = v := by
      have := y2 vs' (.of hvs')
      rw [ev] at this
      exact (Option.some.inj this).symm
    subst exv
    cases q1 : assignT tt L[j] ρ' with
    | none => rw [q1] at h'; exact h'.elim
    | some ρ2 =>
    rw [q1] at h'
    simp only at h'
    refine ⟨O', G', ρ', _, hold', rv, ρ2, q1, fun σ3 hs3 _ hold3 => ⟨O', G', ρ2, hold3, ?_⟩⟩
    have h2 := WtS.later (O1 := O') (σ1 := σ3) (fun _ z => .inl z) .refl h'
    cases q2 : m ρ2 with
    | bad => rw [q2] at h2; exact h2
    | nx ρ3 =>
      rw [q2] at h2
      simp only [Out.turn_nx] at h2
      by_cases hc : ρ3[i]? = some (some (.own (.lst L)))
      · rw [if_pos hc] at h2
        exact fun O4 G4 σ4 H4 ho tr4 hd4 => ⟨O4, G4, ρ3, hd4, hc, WtS.later ho tr4 h2⟩
      · rw [if_neg hc] at h2; exact h2.elim
    | ct ρ3 =>
      rw [q2] at h2
      simp only [Out.turn_ct] at h2
      by_cases hc : ρ3[i]? = some (some (.own (.lst L)))
      · rw [if_pos hc] at h2
        exact fun O4 G4 σ4 H4 ho tr4 hd4 => ⟨O4, G4, ρ3, hd4, hc, WtS.later ho tr4 h2⟩
      · rw [if_neg hc] at h2; exact h2.elim
    | bk ρ3 => rw [q2] at h2; exact h2
    | rt r ρ3 => rw [q2] at h2; exact h2
    | exc e ρ3 => rw [q2] at h2; exact h2
  · left
    have hj' : j = L.length := by omega
    subst hj'
    rw [List.drop_length] at h'
    exact ⟨⟨vs', .of hvs', by rw [rvs'.length]; exact Nat.le_refl _⟩, h' O' G' σ' H' (fun _ z => .inl z) .refl hold'⟩
variable {X : Cx} {sts : List Stmt} {pos : Pos} {tg iter : Expr} {tt : Tgt}
theorem ps_forOD (hp : PassesOwn (model X.prog X.w) X.A X.env X.xe) (hc : X.calm = true) (hi : PE X iter (tVar i)) (hn : i ∉ tt.slots) (hg : ∀ a, PG X tg (dG (cnOf X) (T.pin i a) tt)) (hb : ∀ a, PSs X sts (dS (cnOf X) (T.pin i a) W m))
    (hs : ∀ x, foldedSetIterable iter X.env x = pure x := by intro _; rfl) : PS X (.For tg iter sts [] pos) (dS (cnOf X) T W (mForO i tt m)) := by
  refine ⟨fun pins s σ H E I h => ?_⟩
  obtain ⟨O, G, ρ, hold, h⟩ := h
  unfold mForO at h
  cases q : ρ[i]? with
  | none => rw [q] at h; exact h.elim
  | some os =>
  cases os with
  | none => rw [q] at h; exact h.elim
  | some sl =>
  cases sl with
  | val d => rw [q] at h; exact h.elim
  | own o =>
  cases o with
  | dct _ => rw [q] at h; exact h.elim
  | lst L =>
  rw [q] at h
  simp only at h
  obtain ⟨a, ea, _⟩ := hold.at_own q
  exact (ps_for hp hc (pi_list hi) (hg a) (hb a) hs).run pins s σ H E I (imp_forO hold q ea hn h)
end

/-! ### small helps -/
def bYes : M Bool := fun ρ => .ok true ρ
section
variable {X : Cx} {T : Fx} {W : WX} {e : Expr} {t : M Bool}
theorem pts_nD : PTs X [] (dB (cnOf X) T W bYes) := ⟨fun pins s σ H Q I h => by
  obtain ⟨O, G, ρ, hold, h⟩ := h
  exact pts_nil.run pins s σ H Q I (h G H .refl hold)⟩
theorem pts_1D (h : PT X e (dB (cnOf X) T W t)) : PTs X [e] (dB (cnOf X) T W t) := pts_one h
def LenIs (as : M (List D)) (n : Nat) : Prop := ∀ ρ ds ρ', as ρ = .ok ds ρ' → ds.length = n
theorem len_N : LenIs aN 0 := fun ρ ds ρ' h => by cases h; rfl
theorem len_C {f : M Sl} {as : M (List D)} {n : Nat} (h : LenIs as n) : LenIs (aC f as) (n + 1) := fun ρ ds ρ' e => by
  unfold aC at e
  cases q : f ρ with
  | bad => rw [q] at e; cases e
  | exc c ρ1 => rw [q] at e; cases e
  | ok r ρ1 =>
    rw [q] at e
    simp only [Res.bind_ok] at e
    cases q2 : as ρ1 with
    | bad => rw [q2] at e; cases e
    | exc c ρ2 => rw [q2] at e; cases e
    | ok es ρ2 =>
      rw [q2] at e
      cases e
      simp [h _ _ _ q2]
theorem hL0n {tabs : List Addr} {i : Nat} : ∀ p ∈ (⟨tabs, []⟩ : Fx).L, p.1 ≠ i := fun p hp => absurd hp (by simp)
theorem hL0m {tabs : List Addr} {l : List Nat} : ∀ p ∈ (⟨tabs, []⟩ : Fx).L, p.1 ∉ l := fun p hp => absurd hp (by simp)
theorem hLcn {tabs : List Addr} {L : List (Nat × Addr)} {a : Addr} {i j : Nat} (h : j ≠ i) (r : ∀ p ∈ (⟨tabs, L⟩ : Fx).L, p.1 ≠ i) : ∀ p ∈ (⟨tabs, (j, a) :: L⟩ : Fx).L, p.1 ≠ i := fun p hp => by
  rcases List.mem_cons.mp hp with rfl | hp
  · exact h
  · exact r p hp
theorem hLcm {tabs : List Addr} {L : List (Nat × Addr)} {a : Addr} {l : List Nat} {j : Nat} (h : j ∉ l) (r : ∀ p ∈ (⟨tabs, L⟩ : Fx).L, p.1 ∉ l) : ∀ p ∈ (⟨tabs, (j, a) :: L⟩ : Fx).L, p.1 ∉ l := fun p hp => by
  rcases List.mem_cons.mp hp with rfl | hp
  · exact h
  · exact r p hp
theorem room_g {k : Nat} {A : Around} {env : PySem.Env} (r : L2.Room (k + 3) A) : L2.Room k (A.in1.in1.deeper env) := (Room.in1 (Room.in1 r)).deeper env
def blkC (N : List Str) (sc scope : Scope) (own : List (Str × Nat)) : Bool :=
  decide (scope.kind = .function) && scope.names.all (fun y => decide (scope.names.lookup y.1 = some y.2)) && own.all (fun p => decide (N[p.2]? = some p.1)) &&
    scope.names.all (fun y => !decide (y.2 = .free) || decide (sc.names.lookup y.1 = some .cell) || decide (sc.names.lookup y.1 = some .free)) &&
    scope.names.all (fun y => !(decide (y.2 = .local) || decide (y.2 = .cell)) || (own.map (·.1)).contains y.1 || !N.contains y.1)
theorem blk_by {N : List Str} {sc scope : Scope} {own : List (Str × Nat)} (h : blkC N sc scope own = true) : BlkOk N sc scope own := by
  unfold blkC at h
  simp only [Bool.and_eq_true, List.all_eq_true, decide_eq_true_eq, Bool.or_eq_true, Bool.not_eq_true', decide_eq_false_iff_not, List.contains_iff_mem, Bool.or_eq_false_iff] at h
  obtain ⟨⟨⟨⟨h1, h2⟩, h3⟩, h4⟩, h5⟩ := h
  refine ⟨h1, h2, h3, fun y hy e => ?_, fun y hy e => ?_⟩
  · rcases h4 y hy with (z | z) | z
    · exact (z e).elim
    · exact .inl z
    · exact .inr z
  · rcases h5 y hy with (z | z) | z
    · exact (e.elim z.1 z.2).elim
    · exact .inl z
    · exact .inr fun q => by simp [q] at z
def gblkC (N : List Str) (sc scope : Scope) (own : List (Str × Nat)) : Bool :=
  decide (scope.kind = .function) && !scope.isCoroutine && own.all (fun p => decide (N[p.2]? = some p.1)) && decide (scope.names.lookup (".0" : Str) = some NameKind.local) && scope.names.all (fun y => !decide (y.2 = .cell)) && scope.names.all (fun y => decide (scope.names.lookup y.1 = some y.2)) &&
    scope.names.all (fun y => !decide (y.2 = .free) || decide (sc.names.lookup y.1 = some .cell) || decide (sc.names.lookup y.1 = some .free)) &&
    scope.names.all (fun y => !decide (y.2 = .local) || (own.map (·.1)).contains y.1 || !N.contains y.1)
theorem gblk_by {N : List Str} {sc scope : Scope} {own : List (Str × Nat)} (h : gblkC N sc scope own = true) : GBlk N sc scope own := by
  unfold gblkC at h
  simp only [Bool.and_eq_true, List.all_eq_true, decide_eq_true_eq, Bool.or_eq_true, Bool.not_eq_true', decide_eq_false_iff_not, List.contains_iff_mem] at h
  obtain ⟨⟨⟨⟨⟨⟨⟨h1, h2⟩, h3⟩, h4⟩, h5⟩, h6⟩, h7⟩, h8⟩ := h
  refine ⟨h1, h2, h3, h4, h5, h6, fun y hy e => ?_, fun y hy e => ?_⟩
  · rcases h7 y hy with (z | z) | z
    · exact (z e).elim
    · exact .inl z
    · exact .inr z
  · rcases h8 y hy with (z | z) | z
    · exact (z e).elim
    · exact .inl z
    · exact .inr fun q => by simp [q] at z
theorem pe_kI {x : Str} {p : Pos} {i : Int} {t : Tok} (hm : X.mg x = some (.int i t)) (hg : Gl X x) (hd : (x == ("__debug__" : Str)) = false := by decide) : PE X (.Name x p) (dT (cnOf X) T W (sC (.int i))) := pe_cD (pe_glob (v := .int i) hg hm ⟨t, rfl⟩ hd) fun _ => .int i
theorem pe_kS {x y : Str} {p : Pos} {t : Tok} (hm : X.mg x = some (.str y t)) (hg : Gl X x) (hd : (x == ("__debug__" : Str)) = false := by decide) : PE X (.Name x p) (dT (cnOf X) T W (sC (.str y))) := pe_cD (pe_glob (v := .str y) hg hm ⟨t, rfl⟩ hd) fun _ => .str y
theorem pe_iD {i : Int} {j : Nat} {pos : Pos} : PE X (.Constant (.int i) j pos) (dT (cnOf X) T W (sC (.int i))) := pe_cD pe_int fun _ => .int i
theorem pe_sD {y : Str} {j : Nat} {pos : Pos} : PE X (.Constant (.str y) j pos) (dT (cnOf X) T W (sC (.str y))) := pe_cD pe_str fun _ => .str y
theorem pe_bD' {b : Bool} {j : Nat} {pos : Pos} : PE X (.Constant (.bool b) j pos) (dT (cnOf X) T W (sC (.bool b))) := pe_cD pe_bl fun _ => .bl b
theorem pe_nD {j : Nat} {pos : Pos} : PE X (.Constant .none j pos) (dT (cnOf X) T W (sC .none)) := pe_cD pe_non fun _ => .non
end
end Sd
set_option Elab.async false
set_option linter.all false
set_option maxRecDepth 100000
set_option maxHeartbeats 4000000
set_option autoImplicit false
/-! Sd: the end. -/
namespace Sd
open PySem PySem.Spec PyProof.Rows L2 C8 GenW GxR

section
variable {P : Program} {w : World} {K : PySem.W.Frag} {mg : Str → Option Value} {base : Heap} {tabs : List Addr}
/-- cal_fn, for a def whose object is known -/
theorem fno_fn {x : Str} {st : Stmt} {cdv : Value} {f : Addr} {fd : FuncData} {N ps : List Str} {k : Nat} {m : MS} {F : Fn} (Fd : DefC K mg x st cdv f fd)
    (S : L2.FnScope N ps (fnScope st)) (hF : F = ofBody (N.length - ps.length) m)
    (hb : ∀ (A : Around) (outer : List PySem.Env) (s : Shared) (H : Hp) (E : XK), L2.Room k (A.deeper (envOfC x (fnScope st) s.heap.objs.size f cdv)) →
      PSs (cxOf C8.CX0 P w K mg base N x (fnScope st) f cdv A outer s H E).nox (fnBody st) (dS ⟨P, w, K⟩ ⟨tabs, []⟩ W0 m)) : L2.FnOk P w K mg base C8.CX0 (k + 1) f fd ps (dSp ⟨P, w, K⟩ tabs ps.length F) := by
  obtain ⟨oc, od, kV, doc, pm, an, ct, osl, rfl, lk, hcd⟩ := Fd.ex
  exact fn_of lk hcd S (fun vs H Q E h => h.1) fun A outer s H vs Q E hr h => ⟨_, (hb A outer s H E hr).nox, enter hF h⟩
/-- a def as the head tells it -/
theorem defC_of {x : Str} {st : Stmt} {fd : FuncData} (F : L2.FunD K x x (fnArgs st) (fnBody st) (fnScope st) [] [] (He.fAd K (x, none)) fd) (hm : mg x = some (.ref (He.fAd K (x, none)))) : DefC K mg x st (.ref (He.codeOf K (x, none))) (He.fAd K (x, none)) fd := by
  obtain ⟨oc, od, dV, kV, doc, pm, an, cdv, ct, osl, e, lk, hcd, hd, _⟩ := F.ex
  subst e
  obtain ⟨c, ec⟩ := He.codeIn_ref hcd
  subst ec
  have e2 : dV = .none := by
    rcases hd with ⟨_, e⟩ | ⟨h, _⟩
    · exact e
    · exact (h rfl).elim
  subst e2
  have e3 : He.codeOf K (x, none) = c := He.codeOf_eq lk rfl
  rw [e3]
  exact ⟨⟨oc, od, kV, doc, pm, an, ct, osl, rfl, lk, hcd⟩, hm, F.kp⟩
/-- the law's promise at the script -/
theorem law_sp {F : Fn} {H : Hp} {a : Addr} {ns : List Int} {E : XK} (hH : ∀ t ∈ tabs, H t = some (.tbl #[])) (hS : SqL K H a (ns.map V.int)) (hF : F [.list (ns.map .int)] = .ok (.val (.bool true))) :
    dSp ⟨P, w, K⟩ tabs 1 F [.ref a] H (fun v _ => v = .bl true) E := by
  have hints : ∀ (G : Hp) (l : List Int), Reps ⟨P, w, K⟩ G (l.map V.int) (l.map .int) := fun G l => by
    induction l with
    | nil => exact .nil
    | cons i l ih => exact .cons (.int i) ih
  have core : ∀ G : Hp, Same G H → (∀ a ps, G a ≠ some (.tbl ps)) → SqL K G a (ns.map V.int) → dSp ⟨P, w, K⟩ tabs 1 F [.ref a] H (fun v _ => v = .bl true) E := fun G sub ntb sq => by
    refine ⟨rfl, G, [.list (ns.map .int)], ⟨sub, ntb, fun _ z => z.elim, fun t ht => ⟨#[], hH t ht, trivial⟩, fun _ z => absurd z (by simp), rfl, fun i s z => by simp at z, fun i j o o' a _ z => by simp at z⟩, .cons (.lst sq (hints G ns)) .nil, ?_⟩
    rw [hF]
    exact fun v G' H' _ _ rr => by cases rr; rfl
  rcases hS with hS | hS
  · refine core (fun b => if b = a then H a else none) (fun b o e => ?_) (fun b ps e => ?_) (.inl ?_)
    · dsimp only at e
      by_cases z : b = a
      · rw [if_pos z] at e; rw [z]; exact e
      · rw [if_neg z] at e; cases e
    · by_cases z : b = a
      · rw [if_pos z] at e
        rcases hS with h | ⟨o, h⟩
        · rw [h] at e; cases e
        · rw [h] at e; cases e
      · rw [if_neg z] at e; cases e
    · rcases hS with h | ⟨o, h⟩
      · exact .inl ((if_pos rfl).trans h)
      · exact .inr ⟨o, (if_pos rfl).trans h⟩
  · exact core (fun _ => none) (fun _ _ e => by cases e) (fun _ _ e => by cases e) (.inr hS)
theorem tabB_of {c P : Addr} (h : LamX.TabB base mg c P) : TabB base mg c P := ⟨h.code, h.bm, h.gP⟩
/-- the tables of the defs that hold generator expressions -/
abbrev csOf (K : PySem.W.Frag) (tf : List He.Defn) : List (Addr × Addr) := tf.map (He.cT K)
theorem law_at {l : PySem.W.OpenLaw} {w : World} {K : PySem.W.Frag} {mg : Str → Option Value} {h : Heap} {fa : List He.Fa} {fn : List He.DefD} {tf : List He.Defn} {ex : PySem.W.Frag → Bool} {fA : Addr} {fd : FuncData} {k : Nat} {F : Fn} (KX : K.In h) (c : He.SaysX fa fn [] tf ex w h K)
    (hb : ∀ (s : Shared) (u : Value), BindsTo s fd ⟨[u], []⟩ [("script", u)])
    (hF : ∀ ns : List Int, ns.length ≤ 63 → (∀ z ∈ ns, Builtin.Int.intBits z ≤ 1048576) → F [.list (ns.map .int)] = .ok (.val (.bool true)))
    (hok : ∀ base : Heap, K.In base → base.Ns mainGlobals mg → (∀ p ∈ csOf K tf, TabB base mg p.1 p.2) → L2.FnOk l.prog w K mg base C8.CX0 k fA fd ["script"] (dSp ⟨l.prog, w, K⟩ ((csOf K tf).map (·.2)) 1 F)) :
    LamX.LawAtS l w K C8.CX0 k 63 "script" mg fA h := by
  refine ⟨fd, csOf K tf, _, fun p hp => ?_, fun p hp => ?_, fun p hp => ?_, hb, fun H a ns hl hz hH hS => law_sp (fun t ht => ?_) hS (hF ns hl hz), fun base h1 h2 h3 => hok base h1 h2 fun p hp => tabB_of (h3 p hp)⟩
  · obtain ⟨q, hq, rfl⟩ := List.mem_map.mp hp
    exact c.empty q hq
  · obtain ⟨q, hq, rfl⟩ := List.mem_map.mp hp
    exact c.out q hq
  · obtain ⟨q, hq, rfl⟩ := List.mem_map.mp hp
    exact PySem.W.codeHd_of_K KX (c.hd q hq)
  · obtain ⟨p, hp, rfl⟩ := List.mem_map.mp ht
    exact hH p hp
end
end Sd
set_option Elab.async false
set_option linter.all false
set_option maxRecDepth 100000
set_option maxHeartbeats 4000000
set_option autoImplicit false
/-! Sd: a dict with tuple keys that has just been made, gone through by its keys. -/
namespace Sd
open PySem PySem.Spec PyProof.Rows L2

/-- the keys at ks, of the dict od at d -/
def Itkn (d : Addr) (od : Obj) (ks : List Addr) : It :=
  ⟨fun i H => (∃ u, H d = some (.frz od u)) ∧ i < ks.length, fun i H x H' => H' = H ∧ ∃ b, ks[i]? = some b ∧ x = .ref b, fun i H => (∃ u, H d = some (.frz od u)) ∧ ks.length ≤ i⟩
theorem turn_kn {P : Program} {w : World} {K : PySem.W.Frag} {tg : Expr} {d : Addr} {od : Obj} {ks : List Addr} {es : Array DictEntry} {ep : Nat} (it : Addr) (hod : od.data = .dict es ep) (hes : es.toList.map (·.key) = ks.map Value.ref) :
    Turn P w K tg (Itkn d od ks) [it] it (fun i h => h.IsKeyIter it d i es.size ep) where
  mem := by simp
  obj := fun i h st b hb => by
    have e : b = it := by simpa using hb
    subst e
    obtain ⟨oi, e, c, dd⟩ := st
    exact ⟨oi, e, fun v z => by rw [dd] at z; cases z⟩
  keep := fun i h h' st k => st.at fun oi e => k it (by simp) oi e
  item := by
    intro X hP hw hK hc i pins s σ H E I hf st hg
    subst hP hw hK
    obtain ⟨⟨u, hd⟩, hi⟩ := hg
    obtain ⟨f0, f1, f2, f3, f4, f5⟩ := hf it (by simp)
    obtain ⟨hgd, _⟩ := (show ObjOk X.prog X.w H s.heap d (.frz od u) from I.hok d _ hd)
    have hl : es.size = ks.length := by
      have := congrArg List.length hes
      simpa using this
    have hi' : i < es.size := by omega
    have hen : es[i]? = some es[i] := Array.getElem?_eq_getElem hi'
    have hk : es[i].key = .ref ks[i] := by
      have h1 : (es.toList.map (·.key))[i]? = (ks.map Value.ref)[i]? := by rw [hes]
      simpa [hi, hi'] using h1
    refine next_key_item st hgd hod rfl hen fun h' st' sb => ?_
    have I1 : Inv X pins σ H { s with heap := h' } := I.turned (t' := s.toks) (fun b ob hb e => (sb.2 b hb).trans e) f0 f1 f3 f4 f5
    obtain ⟨oi, e, c, dd⟩ := id st'
    exact ⟨es[i].key, rfl, go_of (s := { s with heap := h' }) e c dd (by decide) ⟨.ref ks[i], H, I1, hk, ⟨rfl, ks[i], List.getElem?_eq_getElem hi, rfl⟩, st', fun b hb => (hf b hb).1⟩⟩
  done := by
    intro X hP hw hK hc i pins s σ H E I hf st hg
    subst hP hw hK
    obtain ⟨⟨u, hd⟩, hi⟩ := hg
    obtain ⟨f0, f1, f2, f3, f4, f5⟩ := hf it (by simp)
    obtain ⟨hgd, _⟩ := (show ObjOk X.prog X.w H s.heap d (.frz od u) from I.hok d _ hd)
    have hl : es.size = ks.length := by
      have := congrArg List.length hes
      simpa using this
    exact next_key_end (I.ok.hd hc) st hgd hod rfl (by omega) fun h' eb => ⟨rfl, I.turned (t' := s.toks) (fun b ob hb e => eb b ob hb e) f0 f1 f3 f4 f5⟩
  self := fun A i s Q E st h => by
    refine wpAny_pyIter_slot st.typeIs F.slot_dict_keyiterator_iter (wpAny_call_entry F.slot_dict_keyiterator_iter st.typeIs F.entry_dict_keyiterator_iter ?_ (F.args_dict_keyiterator_iter_1 _))
    show wpAny _ _ (ret (.ref it)) _ _ s
    exact wpAny_pure ⟨_, rfl, "dict_keyiterator", _, st.typeIs, F.slot_dict_keyiterator_next.lookup, h⟩
theorem io_kn {c : Cn} {G0 : Hp} {d : Addr} {od : Obj} {u : HO} {ks : List Addr} {ds : List D} (hd : G0 d = some (.frz od u)) (rs : Reps c G0 (ks.map V.ref) ds) : IterOk c (Itkn d od ks) G0 ds where
  go := fun G H i s1 s2 hi => ⟨⟨u, s2 _ _ (s1 _ _ hd)⟩, by have := rs.length; simp at this; omega⟩
  yld := fun G H i x H' s1 s2 nt hi h => by
    obtain ⟨rfl, b, hb, rfl⟩ := h
    obtain ⟨e, e2, r⟩ := rs.getV i (v := .ref b) (by rw [List.getElem?_map, hb]; rfl)
    exact ⟨e, G, e2, TrN.refl s2 nt, r.mono s1⟩
  stop := fun G H i s1 s2 hi => ⟨⟨u, s2 _ _ (s1 _ _ hd)⟩, by have := rs.length; simp at this; omega⟩
/-- an object that no slot holds is told otherwise, and is frozen so -/
theorem Hold.retell {c : Cn} {T : Fx} {O : Addr → Prop} {G H : Hp} {σ : St} {ρ : Ev} {a : Addr} {u w : HO} (h : Hold c T O G σ H ρ) (ho : ¬ O a) (hg : G a = none) (hu : H a = some u) (hn : ∀ ps, u ≠ .tbl ps) (hw : ∀ ps, w ≠ .tbl ps) : Hold c T O (upd G a w) σ (upd H a w) ρ where
  sub := fun b o e => by
    by_cases z : b = a
    · subst z; rw [upd_same] at e ⊢; exact e
    · rw [upd_ne z] at e ⊢; exact h.sub b o e
  ntb := fun b ps e => by
    by_cases z : b = a
    · subst z; rw [upd_same] at e; exact hw ps (Option.some.inj e)
    · rw [upd_ne z] at e; exact h.ntb b ps e
  oin := fun b hb e => by
    have z : b ≠ a := fun z => ho (by rw [← z]; exact hb)
    rw [upd_ne z] at e
    exact h.oin b hb e
  tab := fun p hp => by
    obtain ⟨ps, e, q⟩ := h.tab p hp
    refine ⟨ps, ?_, q⟩
    rw [upd_ne (fun z => by subst z; rw [hu] at e; exact hn ps (Option.some.inj e))]
    exact e
  lnt := h.lnt
  len := h.len
  slot := fun i s hi => by
    obtain ⟨v, e, q⟩ := h.slot i s hi
    refine ⟨v, e, ?_⟩
    have sm : Same G (upd G a w) := fun b o e => by rw [upd_ne (ne_of_none e hg)]; exact e
    cases s with
    | val d => exact Rep.mono sm q
    | own o =>
      obtain ⟨b, rfl, hb, hg2, q⟩ := q
      have z : b ≠ a := fun z => ho (by rw [← z]; exact hb)
      exact ⟨b, rfl, hb, by rw [upd_ne z]; exact hg2, q.mono sm (upd_ne z)⟩
  apart := h.apart
theorem Tr.retell {O : Addr → Prop} {G H G1 H1 : Hp} {a : Addr} {w : HO} (t : Tr O G H G1 H1) (hH : H a = none) (hg : G1 a = none) : Tr O G H (upd G1 a w) (upd H1 a w) where
  g := fun b o e => by rw [upd_ne (ne_of_none (t.g b o e) hg)]; exact t.g b o e
  k := fun b o e n p => by rw [upd_ne (ne_of_none e hH)]; exact t.k b o e n p
  n := fun b o e => by
    by_cases z : b = a
    · subst z; exact .inr (.inl hH)
    · rw [upd_ne z] at e; exact t.n b o e
  d := fun b e => by
    by_cases z : b = a
    · subst z; exact hH
    · rw [upd_ne z] at e; exact t.d b e
  t := fun b ps e => by
    obtain ⟨ps', e'⟩ := t.t b ps e
    exact ⟨ps', by rw [upd_ne (ne_of_none e hH)]; exact e'⟩
/-- its keys -/
def sItK (f : M Sl) : M (List D) := fun ρ => (f ρ).bind fun r ρ' => match r with
  | .own (.dct kvs) => if allTup kvs = true then .ok (kvs.map (·.1)) ρ' else .bad
  | _ => .bad
theorem ObAt.na {c : Cn} {G H : Hp} {a : Addr} {kvs : List (D × D)} (q : ObAt c G H a (.dct kvs)) (ht : allTup kvs = true) : ∃ xs, NAt c H a xs ∧ RepsN c G xs kvs := by
  rcases q with ⟨es, e1, r⟩ | ⟨xs, e1, r⟩
  · cases r with
    | nil => exact ⟨[], .inr ⟨rfl, .inl e1⟩, .nil⟩
    | cons a b =>
      rename_i k _ _ _ _
      cases k <;> simp [allTup, isTup, keyD] at ht
  · exact ⟨xs, .inl e1, r⟩
section
variable {X : Cx} {T : Fx} {W : WX} {e tg : Expr} {f : M Sl}
theorem pi_K (he : PE X e (dT (cnOf X) T W f)) : PI X tg e (dI (cnOf X) T W (sItK f)) := by
  refine ⟨fun pins s σ H R I h => ?_⟩
  obtain ⟨O, G, ρ, hold, h⟩ := h
  unfold sItK at h
  have key : dT (cnOf X) T W f σ H (fun x H1 => ∃ G1 ρ1 kvs a, x = V.ref a ∧ Tr O G H G1 H1 ∧ Hold (cnOf X) T O G1 σ H1 ρ1 ∧ H a = none ∧ G1 a = none ∧ ObAt (cnOf X) G1 H1 a (.dct kvs) ∧ allTup kvs = true ∧
      ∀ J G' H', Tr O G H G' H' → Hold (cnOf X) T O G' σ H' ρ1 → IterOk (cnOf X) J G' (kvs.map (·.1)) → R J H') := by
    refine ⟨O, G, ρ, hold, ?_⟩
    cases q : f ρ with
    | bad => rw [q] at h; exact h.elim
    | exc x ρ' => rw [q] at h; exact h
    | ok r ρ1 =>
      rw [q] at h
      simp only [Res.bind_ok] at h
      cases r with
      | val d => exact h.elim
      | own o =>
        cases o with
        | lst xs => exact h.elim
        | dct kvs =>
          simp only at h
          by_cases ht : allTup kvs = true
          · rw [if_pos ht] at h
            intro v G1 H1 t1 hold1 rr
            obtain ⟨a, rfl, h1, h2, h3⟩ := rr
            exact ⟨G1, ρ1, kvs, a, rfl, t1, hold1, h1, h2, h3, ht, h⟩
          · rw [if_neg ht] at h; exact h.elim
  refine thn (he.run pins s σ H _ I key) fun v s1 ⟨x, H1, I1, r1, q⟩ => ?_
  obtain ⟨G1, ρ1, kvs, a, rfl, t1, hold1, h1, h2, h3, ht, k⟩ := q
  cases r1
  obtain ⟨u, hu, nu, mu⟩ := h3.there
  obtain ⟨xs, na, rn⟩ := h3.na ht
  obtain ⟨g1, g2, ys, p, o, es, ep, ho, hx, hdt, hee, hkeys, hn⟩ := nd_of I1 na hold1.sub rn
  obtain ⟨od, I2⟩ := I1.lock hu mu
  obtain ⟨hgd, _⟩ := (show ObjOk X.prog X.w (upd H1 a (.frz od u)) s1.heap a (.frz od u) from I2.hok a _ upd_same)
  rw [ho] at hgd
  cases hgd
  have no : ¬ O a := fun z => hold.oin a z h1
  have hold2 := hold1.retell (w := .frz o u) no h2 hu nu (fun ps z => by cases z)
  have tr2 := t1.retell (w := .frz o u) h1 h2
  have sm : Same G1 (upd G1 a (.frz o u)) := fun b w e => by rw [upd_ne (ne_of_none e h2)]; exact e
  have hes : es.toList.map (·.key) = (ys.map fun y => y.2.1).map Value.ref := by
    rw [hee, List.map_map, List.map_map]
    rfl
  have rk := keys_vals rn p
  have io : IterOk (cnOf X) (Itkn a o (ys.map fun y => y.2.1)) (upd G1 a (.frz o u)) (kvs.map (·.1)) := by
    refine io_kn upd_same ?_
    rw [List.map_map]
    exact rk.mono sm
  exact iter_keys g1 ho hx hdt (pi_one (tk := s1.toks) I2 _ (turn_kn _ hdt hes) ⟨_, Heap.get?_push_size _ rfl, rfl, rfl⟩ (k _ _ _ tr2 hold2 io))
end
end Sd
set_option Elab.async false
set_option linter.all false
set_option maxRecDepth 100000
set_option maxHeartbeats 4000000
set_option autoImplicit false
/-! Sd: exceptions: raise, calls that may raise, try .. except X as e: return texts by isinstance. -/
namespace Sd
open PySem PySem.Spec PyProof.Rows L2 C8 GenW GxR

/-- the wish of a class by its name -/
def wOf (mg : Str → Option Value) (Wk : L2.WX) : Sd.WX := fun x σ H => ∀ C, mg x = some (.ref C) → Wk (.ref C) none σ H
def dSpX (c : Cn) (mg : Str → Option Value) (tabs : List Addr) (n : Nat) (F : Fn) : Sp := fun vs H Q E => vs.length = n ∧ ∃ G ds, Hold c ⟨tabs, []⟩ O0 G [] H [] ∧ Reps c G vs ds ∧ match F ds with
  | .ok r => ∀ v G' H', Tr O0 G H G' H' → Hold c ⟨tabs, []⟩ O0 G' [] H' [] → RepR c H G' H' v r → Q v H'
  | .exc x => ∀ G' H', Tr O0 G H G' H' → Hold c ⟨tabs, []⟩ O0 G' [] H' [] → ∀ C, mg x = some (.ref C) → E (.ref C) none H'
  | .bad => False
structure CalX (P : Program) (w : World) (K : PySem.W.Frag) (mg : Str → Option Value) (base : Heap) (k : Nat) (x : Str) (sp : Sp) : Prop where
  ex : ∃ (f : Addr) (fd : FuncData) (ps : List Str), FnOk P w K mg base (L2.CX P w) k f fd ps sp ∧ mg x = some (.ref f) ∧ PySem.W.keepIn K (.ref f) = true ∧ L2.Binds K fd ps []
section
variable {P : Program} {w : World} {K : PySem.W.Frag} {mg : Str → Option Value} {base : Heap} {tabs : List Addr}
theorem enterX {N ps : List Str} {m : MS} {F : Fn} {vs : List V} {H : Hp} {Q : VK} {E : XK} (hF : F = ofBody (N.length - ps.length) m) (h : dSpX ⟨P, w, K⟩ mg tabs ps.length F vs H Q E) :
    dS ⟨P, w, K⟩ ⟨tabs, []⟩ (wOf mg fun cls d _ H => E cls d H) m { nx := fun _ H' => Q .non H', rt := Q } (L2.start N vs) H := by
  obtain ⟨hl, G, ds, hold, rs, h⟩ := h
  have hlen : vs.length = ps.length := hl
  refine ⟨O0, G, ds.map (fun d => some (.val d)) ++ List.replicate (N.length - ps.length) none, ?_, ?_⟩
  · refine ⟨hold.sub, hold.ntb, fun _ z => z.elim, hold.tab, fun _ z => absurd z (by simp), ?_, fun i sl hi => ?_, fun i j o o' a _ hi => ?_⟩
    · unfold L2.start
      simp only [List.length_append, List.length_map, List.length_replicate, ← rs.length, hlen]
    · obtain ⟨d, v, rfl, e, r⟩ := slots_of rs i sl hi
      refine ⟨v, ?_, r⟩
      unfold L2.start
      rw [hlen]
      exact e
    · obtain ⟨d, v, e, _⟩ := slots_of rs i _ hi
      cases e
  · rw [hF] at h
    unfold ofBody at h
    cases q : m (ds.map (fun d => some (.val d)) ++ List.replicate (N.length - ps.length) none) with
    | bad => rw [q] at h; exact h.elim
    | bk ρ => rw [q] at h; exact h.elim
    | ct ρ => rw [q] at h; exact h.elim
    | exc e ρ =>
      rw [q] at h
      exact fun O' G' σ' H' ho tr hd => h G' H' tr hd.base
    | nx ρ =>
      rw [q] at h
      exact fun O' G' σ' H' ho tr hd => h .non G' H' tr hd.base .non
    | rt r ρ =>
      rw [q] at h
      refine fun v O' G' σ' H' ho tr hd rr => h v G' H' tr hd.base ?_
      cases r with
      | val d => exact rr
      | own o => obtain ⟨a, e, h1, h2⟩ := rr; exact ⟨a, e, h1.elim id fun z => z.2.elim, h2⟩
/-- a def that may raise, by its body's semantics -/
theorem cal_fnX {x : Str} {st : Stmt} {cdv : Value} {f : Addr} {fd : FuncData} {N ps : List Str} {k : Nat} {m : MS} {F : Fn} (Fd : DefC K mg x st cdv f fd)
    (b : ∀ (kV doc pm : Value) (an : Option Addr) (cdv ct : Value) (us : List Value), us.length = ps.length → bindArgs (PySem.W.fnOf x x (fnArgs st) (fnBody st) (fnScope st) .none kV doc pm an cdv ct) ⟨us, []⟩ = pure (ps.zip us))
    (S : L2.FnScope N ps (fnScope st)) (hF : F = ofBody (N.length - ps.length) m)
    (hb : ∀ (A : Around) (outer : List PySem.Env) (s : Shared) (H : Hp) (E : XK), L2.Room k (A.deeper (envOfC x (fnScope st) s.heap.objs.size f cdv)) → L2.Takes (cxOf (L2.CX P w) P w K mg base N x (fnScope st) f cdv A outer s H E) (fun cls d _ H => E cls d H) →
      PSs (cxOf (L2.CX P w) P w K mg base N x (fnScope st) f cdv A outer s H E) (fnBody st) (dS ⟨P, w, K⟩ ⟨tabs, []⟩ (wOf mg fun cls d _ H => E cls d H) m)) : CalX P w K mg base (k + 1) x (dSpX ⟨P, w, K⟩ mg tabs ps.length F) := by
  have hbi := Fd.binds b
  obtain ⟨oc, od, kV, doc, pm, an, ct, osl, rfl, lk, hcd⟩ := Fd.ex
  refine ⟨f, _, ps, fn_of lk hcd S (fun vs H Q E h => h.1) fun A outer s H vs Q E hr h => ⟨_, hb A outer s H E hr (L2.takes_of rfl rfl rfl rfl), enterX hF h⟩, Fd.mgf, Fd.kp, hbi⟩
end
/-! ### raise -/
def mRaise (x : Str) : MS := fun ρ => .exc x ρ
/-- what is asked of an own class of exceptions -/
structure ExcF (K : PySem.W.Frag) (mg : Str → Option Value) (x : Str) (C : Addr) : Prop where
  g : mg x = some (.ref C)
  e : PySem.W.excIn K C [.type "ValueError", .type "Exception", .type "BaseException", .type "object"] "ValueError.__new__" = true
  k : PySem.W.keepIn K (.ref C) = true
  b : PySem.W.subIn K (.ref C) (.type "BaseException") = some true
  t : PySem.W.typeIn K (.ref C) = some (.type "type")
section
variable {X : Cx} {T : Fx} {Wk : L2.WX} {e : Expr} {es : List Expr} {as : M (List D)} {x : Str} {p pos : Pos} {k j n : Nat} {F : Fn}
theorem ps_raiseD {msg : Str} {C : Addr} {kk : Nat} {p2 pos2 : Pos} (hc : X.calm = true) (tk : L2.Takes X Wk) (f : ExcF X.K X.mg x C) (hg : Gl X x) (hdb : (x == ("__debug__" : Str)) = false := by decide) :
    PS X (.Raise (some (.Call (.Name x p) [.Constant (.str msg) kk p2] [] pos)) none pos2) (dS (cnOf X) T (wOf X.mg Wk) (mRaise x)) :=
  impPS (ps_raise hc tk (pmk_own PySem.F.excBase_ValueError f.e f.g f.k (raises_own f.b f.t) hg hdb)) fun E σ H h => by
    obtain ⟨O, G, ρ, hold, h⟩ := h
    exact h O G σ H (fun _ z => .inl z) .refl hold C f.g
/-! ### calls that may raise -/
def sCallX (F : Fn) (as : M (List D)) : M Sl := fun ρ => (as ρ).bind fun ds ρ' => match F ds with
  | .ok r => .ok r ρ'
  | .exc x => .exc x ρ'
  | .bad => .bad
theorem pe_fnX (c : CalX X.prog X.w X.K X.mg X.base k x (dSpX (cnOf X) X.mg T.tabs n F)) (hr : L2.Room j X.A) (hk : k ≤ j) (tk : L2.Takes X Wk) (hg : Gl X x) (ha : PA X (e :: es) (dA (cnOf X) T (wOf X.mg Wk) as)) (hn : (e :: es).length = n) (hlen : ∀ ρ ds ρ', as ρ = .ok ds ρ' → ds.length = n)
    (hst : (e :: es).all noStar = true) (hdb : (x == ("__debug__" : Str)) = false := by decide) : PE X (.Call (.Name x p) (e :: es) [] pos) (dT (cnOf X) T (wOf X.mg Wk) (sCallX F as)) := by
  have h2 : noStar e = true ∧ es.all noStar = true := by simpa using hst
  obtain ⟨f, fd, ps, Fo, hm, kp, b⟩ := c.ex
  refine impPE (pe_callS Fo (hr.mono hk) hg hm kp b (fun σ => passAt tk σ) ha hdb (starEach_cons h2.1) (any_star h2.2)) fun σ H Q h => ?_
  obtain ⟨O, G, ρ, hold, h⟩ := h
  refine ⟨O, G, ρ, hold, ?_⟩
  unfold sCallX at h
  cases q : as ρ with
  | bad => rw [q] at h; exact h
  | exc x ρ' => rw [q] at h; exact h
  | ok ds ρ1 =>
    rw [q] at h
    simp only [Res.bind_ok] at h
    intro vs G1 H1 t1 hold1 rs
    refine ⟨by rw [rs.length]; exact hlen _ _ _ q, G1, ds, hold1.base, rs, ?_⟩
    cases q2 : F ds with
    | bad => rw [q2] at h; exact h
    | exc c =>
      rw [q2] at h
      exact fun G2 H2 t2 hb => h G2 H2 (t1.trans' (t2.wider fun _ z => z.elim)) (hold1.call t2 hb)
    | ok r =>
      rw [q2] at h
      exact fun v G2 H2 t2 hb rr => h v G2 H2 (t1.trans' (t2.wider fun _ z => z.elim)) (hold1.call t2 hb) (rr.back t1.d)
end
/-! ### try -/
def lkS {β : Type} : List (Str × β) → Str → Option β
  | [], _ => none
  | p :: r, e => if p.1 = e then some p.2 else lkS r e
theorem lkS_mem {β : Type} {e : Str} {v : β} : ∀ {l : List (Str × β)}, lkS l e = some v → (e, v) ∈ l
  | [], h => by cases h
  | p :: r, h => by
    unfold lkS at h
    by_cases q : p.1 = e
    · rw [if_pos q] at h
      cases h
      rw [← q]
      exact List.mem_cons_self
    · rw [if_neg q] at h
      exact List.mem_cons_of_mem _ (lkS_mem h)
theorem al_nil {α : Type} {P : α → Prop} : ∀ p ∈ ([] : List α), P p := fun _ h => nomatch h
theorem al_cons {α : Type} {P : α → Prop} {x : α} {l : List α} (h : P x) (t : ∀ p ∈ l, P p) : ∀ p ∈ x :: l, P p := fun p hp => by
  rcases List.mem_cons.mp hp with rfl | hp
  · exact h
  · exact t p hp
/-- the class that flew, the text that is returned for it (none: it flies on) -/
def mTry (i : Nat) (L : List (Str × Option Str)) (m : MS) : MS := fun ρ => match m ρ with
  | .exc e ρ' => match lkS L e with
    | some (some z) => .rt (.val (.str z)) ρ'
    | some none => .exc e ρ'
    | none => .bad
  | o => o
/-- the suite's one statement: a text by the class of what is held -/
structure SuiteE (X : Cx) (i : Nat) (a : Addr) (C : Addr) (e : Expr) (z : Str) : Prop where
  pe : PE X e (fun σ H Q => σ[i]? = some (some (.ref a)) ∧ Q (.str z) H)
section
variable {X : Cx} {i : Nat} {a C : Addr} {oe : Obj} {pn : List (Addr × Obj)} {pos : Pos} {kk : Nat} {z : Str}
theorem su_const : SuiteE X i a C (.Constant (.str z) kk pos) z := ⟨impPE pe_str fun _ _ _ h => h.2⟩
theorem su_if {x M : Str} {D : Addr} {b : Bool} {e1 e2 : Expr} {z z1 z2 : Str} {p1 p2 p3 p4 : Pos} (C0 : L2.ExcC X.K C) (hz : Zc (.ref C) none oe) (hf : ∃ vs, oe.data = .fields vs) (hN : X.N[i]? = some x) (hv : Vis X.env.scope x) (hd : (x == ("__debug__" : Str)) = false) (hcd : (x == ("__classdict__" : Str)) = false)
    (hgi : Gl X "isinstance") (hmi : X.mg "isinstance" = none) (hg : Gl X M) (hm : X.mg M = some (.ref D)) (hdM : (M == ("__debug__" : Str)) = false) (hk : PySem.W.kitOne X.K (.ref C) (.ref D) = some b)
    (h1 : SuiteE (X.suite a ((a, oe) :: pn)) i a C e1 z1) (h2 : SuiteE (X.suite a ((a, oe) :: pn)) i a C e2 z2) (hzz : (if b = true then z1 else z2) = z) :
    SuiteE (X.suite a ((a, oe) :: pn)) i a C (.IfExp (.Call (.Name "isinstance" p1) [.Name x p2, .Name M p3] [] p4) e1 e2 pos) z := by
  subst hzz
  refine ⟨impPE (pe_ifExp (pt_truth (pe_callB (call_isE C0 hz hf) hgi hmi (by decide +kernel) (pa_cons (pv i hN hv hd hcd) (pa_cons (pe_glob hg hm (v := .ref D) rfl hdM) pa_nil rfl) rfl) (by decide) (by decide) (by rfl) (by rfl)) (fun _ => rfl)) h1.pe h2.pe) fun σ H Q h => ?_⟩
  obtain ⟨hs, hq⟩ := h
  refine ⟨_, hs, .ref D, .ref D, b, rfl, fun u r => r, hk, b, rfl, ?_⟩
  cases b with
  | true => exact ⟨hs, hq⟩
  | false => exact ⟨hs, hq⟩
theorem ps_tryD {T : Fx} {Wk : L2.WX} {body : List Stmt} {m : MS} {L : List (Str × Option Str)} {x n : Str} {c : Value} {ex : Expr} {np p5 pos' pos2 : Pos} (hs : X.stack = X.env :: X.outer) (hf : X.env.frame = some X.env.locals) (hN : X.N.Nodup) (hi : X.N[i]? = some n) (hln : X.env.kindOf n = some .local) (hc : Names X x c)
    (tk : L2.Takes X Wk)
    (hb : ∀ (W : L2.WX) (pn : List (Addr × Obj)) (xe : Value → Shared → Prop), L2.Takes (X.tr pn xe) W → PassesOwn (model X.prog X.w) X.A X.env xe → PSs (X.tr pn xe) body (dS (cnOf X) T (wOf X.mg W) m))
    (hh : ∀ p ∈ L, ∀ C, X.mg p.1 = some (.ref C) → PySem.W.exmOne X.K (.ref C) c = some p.2.isSome)
    (hsu : ∀ p ∈ L, ∀ C z a oe pn, X.mg p.1 = some (.ref C) → p.2 = some z → Zc (.ref C) none oe → (∃ vs, oe.data = .fields vs) → SuiteE (X.suite a ((a, oe) :: pn)) i a C ex z) :
    PS X (.Try body [.ExceptHandler (some (.Name x np)) (some n) [.Return (some ex) p5] pos'] [] [] pos2) (dS (cnOf X) T (wOf X.mg Wk) (mTry i L m)) := by
  refine impPS (ps_try_as (tb := fun W => dS (cnOf X) T (wOf X.mg W) m) (ts := fun a cls d => fun D σ H => ∃ e C z, cls = .ref C ∧ d = none ∧ X.mg e = some (.ref C) ∧ lkS L e = some (some z) ∧ (∃ σ0 : St, σ = σ0.set i (some (.ref a))) ∧ D.rt (.str z) H) hs hf hN hi hln hc tk hb ?_) fun E σ H q => ?_
  · intro a oe cls d pn hz hfl
    refine ⟨fun pins s σ H D I q => ?_⟩
    obtain ⟨e, C, z, rfl, rfl, h1, h2, h4, h5⟩ := q
    obtain ⟨σ0, h4⟩ := h4
    have hlt : i < σ.length := by
      have h6 : σ.length = X.N.length := I.len
      rw [h6]
      exact (List.getElem?_eq_some_iff.mp hi).1
    have h7 : σ[i]? = some (some (.ref a)) := by
      rw [h4] at hlt ⊢
      rw [List.length_set] at hlt
      exact List.getElem?_set_self hlt
    exact (pss_one (ps_ret (hsu _ (lkS_mem h2) C z a oe pn h1 rfl hz hfl).pe)).run pins s σ H D I ⟨h7, h5⟩
  · obtain ⟨O, G, ρ, hold, q⟩ := q
    refine ⟨O, G, ρ, hold, ?_⟩
    unfold mTry at q
    cases hm : m ρ with
    | bad => rw [hm] at q; exact q
    | nx ρ' => rw [hm] at q; exact q
    | rt r ρ' => rw [hm] at q; exact q
    | bk ρ' => rw [hm] at q; exact q
    | ct ρ' => rw [hm] at q; exact q
    | exc e ρ' =>
      rw [hm] at q
      intro O' G' σ' H' ho tr hd C hC
      cases hl : lkS L e with
      | none => simp only [hl] at q; exact q.elim
      | some o =>
        refine ⟨o.isSome, hh _ (lkS_mem hl) C hC, fun hbt a ha => ?_, fun hbf => ?_⟩
        · obtain ⟨z, rfl⟩ := Option.isSome_iff_exists.mp hbt
          simp only [hl] at q
          exact ⟨e, C, z, rfl, rfl, hC, hl, ⟨σ', rfl⟩, q (.str z) O' G' σ' H' ho tr hd (.str z)⟩
        · cases o with
          | some z => cases hbf
          | none =>
            simp only [hl] at q
            exact q O' G' σ' H' ho tr hd C hC
theorem takes_none (X : Cx) : L2.Takes X (fun _ _ _ _ => False) := fun _ _ h => by
  obtain ⟨_, _, _, _, _, _, _, _, _, _, _, _, _, _, _, _, h⟩ := h
  exact h.elim
/-- .. in a def that lets nothing out -/
theorem ps_try0D {T : Fx} {body : List Stmt} {m : MS} {L : List (Str × Option Str)} {x n : Str} {c : Value} {ex : Expr} {np p5 pos' pos2 : Pos} (hs : X.stack = X.env :: X.outer) (hf : X.env.frame = some X.env.locals) (hN : X.N.Nodup) (hi : X.N[i]? = some n) (hln : X.env.kindOf n = some .local) (hc : Names X x c)
    (hb : ∀ (W : L2.WX) (pn : List (Addr × Obj)) (xe : Value → Shared → Prop), L2.Takes (X.tr pn xe) W → PassesOwn (model X.prog X.w) X.A X.env xe → PSs (X.tr pn xe) body (dS (cnOf X) T (wOf X.mg W) m))
    (hh : ∀ p ∈ L, ∀ C, X.mg p.1 = some (.ref C) → PySem.W.exmOne X.K (.ref C) c = some p.2.isSome)
    (hsu : ∀ p ∈ L, ∀ C z a oe pn, X.mg p.1 = some (.ref C) → p.2 = some z → Zc (.ref C) none oe → (∃ vs, oe.data = .fields vs) → SuiteE (X.suite a ((a, oe) :: pn)) i a C ex z) :
    PS X (.Try body [.ExceptHandler (some (.Name x np)) (some n) [.Return (some ex) p5] pos'] [] [] pos2) (dS (cnOf X) T W0 (mTry i L m)) :=
  impPS (ps_tryD (Wk := fun _ _ _ _ => False) hs hf hN hi hln hc (takes_none X) hb hh hsu) fun E σ H q => by
    obtain ⟨O, G, ρ, hold, q⟩ := q
    refine ⟨O, G, ρ, hold, ?_⟩
    cases hm : mTry i L m ρ with
    | exc e ρ' =>
      rw [hm] at q
      exact fun O' G' σ' H' ho tr hd => (q O' G' σ' H' ho tr hd).elim
    | _ => rw [hm] at q; exact q
end
/-! ### facts of the head -/
def excB (K : PySem.W.Frag) (x : Str) : Bool :=
  He.eqO (PySem.W.findIn K (.ref (He.ga K x)) "__getattribute__") (some (some (.builtin "BaseException.__getattribute__"))) && (He.eqO (PySem.W.findIn K (.ref (He.ga K x)) "__getattr__") (some none) && (decide (PySem.W.subIn K (.ref (He.ga K x)) (.type "BaseException") = some true) &&
    (PySem.W.hasDictIn K (He.ga K x) && (He.eqO (PySem.W.findIn K (.ref (He.ga K x)) "__class__") (some (some (.builtin "object.__class__"))) && (He.eqO (PySem.W.specialIn K (.builtin "object.__class__") "__get__") (some (some (.builtin "getset_descriptor.__get__"))) &&
      (decide (PySem.W.takesIn K (.builtin "object.__class__") = some true) && decide (PySem.W.mroIn K (He.ga K x) (.type "object") = some true)))))))
theorem excB_ok {K : PySem.W.Frag} {x : Str} (h : excB K x = true) : L2.ExcC K (He.ga K x) := by
  obtain ⟨h1, h⟩ := He.ba h
  obtain ⟨h2, h⟩ := He.ba h
  obtain ⟨h3, h⟩ := He.ba h
  obtain ⟨h4, h⟩ := He.ba h
  obtain ⟨h5, h⟩ := He.ba h
  obtain ⟨h6, h⟩ := He.ba h
  obtain ⟨h7, h8⟩ := He.ba h
  exact ⟨He.eqO_ok h1, He.eqO_ok h2, of_decide_eq_true h3, h4, He.eqO_ok h5, He.eqO_ok h6, of_decide_eq_true h7, of_decide_eq_true h8⟩
def isB (K : PySem.W.Frag) (x y : Str) (b : Bool) : Bool := decide (PySem.W.kitOne K (.ref (He.ga K x)) (.ref (He.ga K y)) = some b)
theorem isB_ok {K : PySem.W.Frag} {x y : Str} {b : Bool} (h : isB K x y b = true) : PySem.W.kitOne K (.ref (He.ga K x)) (.ref (He.ga K y)) = some b := of_decide_eq_true h
section
variable {K : PySem.W.Frag} {mg : Str → Option Value} {x y : Str} {A B C D : Addr}
theorem excF_of (g : mg x = some (.ref A)) (h : PySem.W.excIn K A [.type "ValueError", .type "Exception", .type "BaseException", .type "object"] "ValueError.__new__" = true ∧ PySem.W.keepIn K (.ref A) = true ∧ PySem.W.subIn K (.ref A) (.type "BaseException") = some true ∧ PySem.W.typeIn K (.ref A) = some (.type "type")) : ExcF K mg x A :=
  ⟨g, h.1, h.2.1, h.2.2.1, h.2.2.2⟩
theorem at_one (g : mg x = some (.ref A)) (h : mg x = some (.ref C)) : A = C := by
  rw [g] at h
  cases h
  rfl
theorem excC_at (g : mg x = some (.ref A)) (h : mg x = some (.ref C)) (e : L2.ExcC K A) : L2.ExcC K C := by
  cases at_one g h
  exact e
theorem at_two {P : Addr → Addr → Prop} (g1 : mg x = some (.ref A)) (g2 : mg y = some (.ref B)) (h1 : mg x = some (.ref C)) (h2 : mg y = some (.ref D)) (e : P A B) : P C D := by
  cases at_one g1 h1
  cases at_one g2 h2
  exact e
end
end Sd
set_option Elab.async false
set_option linter.all false
set_option maxRecDepth 100000
set_option maxHeartbeats 4000000
set_option autoImplicit false
/-! Sd: zip of three tuples. -/
namespace RZ3
open PySem
open PySem.Sem (wp)
open RZ (nextOf_tuple_item nextOf_tuple_end)
theorem typeCall3 (a b c : Value) : checkTypeCall "zip" ⟨[a, b, c], []⟩ = pure () := by kernel_rfl
theorem newCall3 (a b c : Value) : checkBuiltinCall "zip.__new__" ⟨[.type "zip", a, b, c], []⟩ = pure () := by kernel_rfl
theorem objInit4 (a b c d : Value) : argsOk "object.__init__" ⟨[a, b, c, d], []⟩ := by
  unfold argsOk; rw [signature?_of (id := "object.__init__") (n := ['_', '_', 't', 'i', 'n', 'i', '_', '_']) (o := ['t', 'c', 'e', 'j', 'b', 'o']) (by kernel_rfl) F.owner_object]; kernel_rfl
theorem ne_ {a b : Nat} (h : a < b ∨ b < a) : (a : Addr) ≠ b := fun e => by
  have e' : (a : Nat) = b := e
  omega
abbrev IsTrip (h : Heap) (T : Addr) (a b c : Value) : Prop := h.get? T = some { cls := .type "tuple", data := .seq #[a, b, c] }
section
variable {prog : Program} {w : World} {A : Around} {E : Value → Shared → Prop} {s : Shared}
theorem updTrip {T : Addr} {a b c x : Value} {k : Nat} {Q : Unit → Shared → Prop} (hT : IsTrip s.heap T a b c)
    (h : ∀ h', h'.get? T = some { cls := .type "tuple", data := .seq ((#[a, b, c] : Array Value).setIfInBounds k x) } → Heap.SameBut T s.heap h' → Q () { s with heap := h' }) :
    wpAny (model prog w) A (updateSeq T (·.setIfInBounds k x)) Q E s := by
  refine wpAny_updateSeq hT rfl (h _ ?_ (Heap.SameBut.update ..))
  rw [Heap.get?_update_self _ hT rfl]
  simp [Obj.mapSeq]
variable {I l1 l2 l3 : Nat} {k1 k2 k3 : Nat} {xs ys zs : Array Value} {a b c : Value}
/-- the objects of a zip of three, at I and behind -/
structure Z3 (h : Heap) (I l1 l2 l3 : Nat) (f0 : Value) (k1 k2 k3 : Nat) (a b c : Value) : Prop where
  z : IsZip h (I + 5) (I + 3) (I + 4) f0
  ti : IsTrip h (I + 3) (.ref I) (.ref (I + 1)) (.ref (I + 2))
  to : IsTrip h (I + 4) a b c
  i1 : h.IsTupleIter I l1 k1
  i2 : h.IsTupleIter (I + 1) l2 k2
  i3 : h.IsTupleIter (I + 2) l3 k3
theorem next_item {x y v : Value} {Q : Value → Shared → Prop} (b1 : l1 < I) (b2 : l2 < I) (b3 : l3 < I) (Z : Z3 s.heap I l1 l2 l3 .none k1 k2 k3 a b c)
    (hl1 : s.heap.IsTuple l1 xs) (hl2 : s.heap.IsTuple l2 ys) (hl3 : s.heap.IsTuple l3 zs) (hx : xs[k1]? = some x) (hy : ys[k2]? = some y) (hv : zs[k3]? = some v)
    (hQ : ∀ h', Z3 h' I l1 l2 l3 (rawInt s.heap.objs.size) (k1 + 1) (k2 + 1) (k3 + 1) x y v → IsTrip h' s.heap.objs.size x y v → h'.objs.size = s.heap.objs.size + 1 →
      (∀ (d : Addr) o, (d < I ∨ I + 5 < d) → s.heap.get? d = some o → h'.get? d = some o) → Q (.ref s.heap.objs.size) { s with heap := h' }) :
    wpAny (model prog w) A (Builtin.«zip.__next__» ⟨[.ref (I + 5)], []⟩) (fun fin s' => ∃ v, fin = .done (.ret v) ∧ Q v s') E s := by
  obtain ⟨hz, hTI, hTO, h1, h2, h3⟩ := Z
  show wpAny _ _ (field (.ref (I + 5)) 2 >>= _) _ _ _
  refine wpAny_bind (wpAny_field hz rfl (x := .bool false) rfl ?_)
  show wpAny _ _ (field (.ref (I + 5)) 3 >>= _) _ _ _
  refine wpAny_bind (wpAny_field hz rfl (x := .ref (I + 3)) rfl ?_)
  refine wpAny_bind (wpAny_seqItems hTI rfl ?_)
  show wpAny _ _ (Builtin.SmallTypes.ownedTupleIsFree (.ref (I + 5)) >>= _) _ _ _
  refine wpAny_bind ?_
  unfold Builtin.SmallTypes.ownedTupleIsFree
  refine wpAny_bind (wpAny_field hz rfl (x := .none) rfl (wpAny_pure ?_))
  simp only [if_true]
  refine wpAny_bind (wpAny_rule ?_)
  refine wpAny_bind (wpAny_field hz rfl (x := .ref (I + 4)) rfl ?_)
  refine wpAny_bind (wpAny_setField_rec hz (by simp) fun h₁ hz₁ hs₁ => ?_)
  replace hz₁ : IsZip h₁ (I + 5) (I + 3) (I + 4) .ellipsis := hz₁
  have e1 : ∀ (d : Nat) o, (d < I + 5 ∨ I + 5 < d) → s.heap.get? d = some o → h₁.get? d = some o := fun d o hd e => hs₁.extBut _ _ (ne_ (by omega)) e
  refine wpAny_bind ?_
  simp only [List.zipIdx_cons, List.zipIdx_nil, List.forIn_cons, List.forIn_nil]
  -- the first
  refine wpAny_bind (wpAny_bind (wpAny_onRaise ?_))
  show wpAny _ _ (Builtin.SmallTypes.nextOf (.ref I) >>= _) _ _ _
  refine wpAny_bind (nextOf_tuple_item (h1.at fun o e => e1 I o (by omega) e) (let ⟨o, e, r⟩ := hl1; ⟨o, e1 l1 o (by omega) e, r⟩) hx fun h₂ h1₂ hs₂ => wpAny_pure ?_)
  have e2 : ∀ (d : Nat) o, (d < I ∨ (I < d ∧ d < I + 5) ∨ I + 5 < d) → s.heap.get? d = some o → h₂.get? d = some o := fun d o hd e => hs₂.extBut _ _ (ne_ (by omega)) (e1 d o (by omega) e)
  have hTO₂ : IsTrip h₂ (I + 4) a b c := e2 (I + 4) _ (by omega) hTO
  have hz₂ : IsZip h₂ (I + 5) (I + 3) (I + 4) .ellipsis := hs₂.extBut _ _ (ne_ (by omega)) hz₁
  refine wpAny_bind (wpAny_seqItems hTO₂ rfl ?_)
  refine wpAny_bind (updTrip hTO₂ fun h₃ hTO₃ hs₃ => ?_)
  replace hTO₃ : IsTrip h₃ (I + 4) x b c := hTO₃
  refine wpAny_bind (wpAny_letGo (wpAny_pure ?_))
  have e3 : ∀ (d : Nat) o, (d < I ∨ (I < d ∧ d < I + 4) ∨ I + 5 < d) → s.heap.get? d = some o → h₃.get? d = some o := fun d o hd e => hs₃.extBut _ _ (ne_ (by omega)) (e2 d o (by omega) e)
  have hz₃ : IsZip h₃ (I + 5) (I + 3) (I + 4) .ellipsis := hs₃.extBut _ _ (ne_ (by omega)) hz₂
  have h1₃ : h₃.IsTupleIter I l1 (k1 + 1) := h1₂.at fun o e => hs₃.extBut _ _ (ne_ (by omega)) e
  -- the second
  refine wpAny_bind (wpAny_bind (wpAny_onRaise ?_))
  show wpAny _ _ (Builtin.SmallTypes.nextOf (.ref (I + 1)) >>= _) _ _ _
  refine wpAny_bind (nextOf_tuple_item (h2.at fun o e => e3 (I + 1) o (by omega) e) (let ⟨o, e, r⟩ := hl2; ⟨o, e3 l2 o (by omega) e, r⟩) hy fun h₄ h2₄ hs₄ => wpAny_pure ?_)
  have e4 : ∀ (d : Nat) o, (d < I ∨ (I + 1 < d ∧ d < I + 4) ∨ I + 5 < d) → s.heap.get? d = some o → h₄.get? d = some o := fun d o hd e => hs₄.extBut _ _ (ne_ (by omega)) (e3 d o (by omega) e)
  have hz₄ : IsZip h₄ (I + 5) (I + 3) (I + 4) .ellipsis := hs₄.extBut _ _ (ne_ (by omega)) hz₃
  have h1₄ : h₄.IsTupleIter I l1 (k1 + 1) := h1₃.at fun o e => hs₄.extBut _ _ (ne_ (by omega)) e
  have hTO₄ : IsTrip h₄ (I + 4) x b c := hs₄.extBut _ _ (ne_ (by omega)) hTO₃
  refine wpAny_bind (wpAny_seqItems hTO₄ rfl ?_)
  refine wpAny_bind (updTrip hTO₄ fun h₅ hTO₅ hs₅ => ?_)
  replace hTO₅ : IsTrip h₅ (I + 4) x y c := hTO₅
  refine wpAny_bind (wpAny_letGo (wpAny_pure ?_))
  have e5 : ∀ (d : Nat) o, (d < I ∨ (I + 1 < d ∧ d < I + 4) ∨ I + 5 < d) → s.heap.get? d = some o → h₅.get? d = some o := fun d o hd e => hs₅.extBut _ _ (ne_ (by omega)) (e4 d o (by omega) e)
  have hz₅ : IsZip h₅ (I + 5) (I + 3) (I + 4) .ellipsis := hs₅.extBut _ _ (ne_ (by omega)) hz₄
  have h1₅ : h₅.IsTupleIter I l1 (k1 + 1) := h1₄.at fun o e => hs₅.extBut _ _ (ne_ (by omega)) e
  have h2₅ : h₅.IsTupleIter (I + 1) l2 (k2 + 1) := h2₄.at fun o e => hs₅.extBut _ _ (ne_ (by omega)) e
  -- the third
  refine wpAny_bind (wpAny_bind (wpAny_onRaise ?_))
  show wpAny _ _ (Builtin.SmallTypes.nextOf (.ref (I + 2)) >>= _) _ _ _
  refine wpAny_bind (nextOf_tuple_item (h3.at fun o e => e5 (I + 2) o (by omega) e) (let ⟨o, e, r⟩ := hl3; ⟨o, e5 l3 o (by omega) e, r⟩) hv fun h₆ h3₆ hs₆ => wpAny_pure ?_)
  have e6 : ∀ (d : Nat) o, (d < I ∨ d = I + 3 ∨ I + 5 < d) → s.heap.get? d = some o → h₆.get? d = some o := fun d o hd e => hs₆.extBut _ _ (ne_ (by omega)) (e5 d o (by omega) e)
  have hz₆ : IsZip h₆ (I + 5) (I + 3) (I + 4) .ellipsis := hs₆.extBut _ _ (ne_ (by omega)) hz₅
  have h1₆ : h₆.IsTupleIter I l1 (k1 + 1) := h1₅.at fun o e => hs₆.extBut _ _ (ne_ (by omega)) e
  have h2₆ : h₆.IsTupleIter (I + 1) l2 (k2 + 1) := h2₅.at fun o e => hs₆.extBut _ _ (ne_ (by omega)) e
  have hTO₆ : IsTrip h₆ (I + 4) x y c := hs₆.extBut _ _ (ne_ (by omega)) hTO₅
  refine wpAny_bind (wpAny_seqItems hTO₆ rfl ?_)
  refine wpAny_bind (updTrip hTO₆ fun h₇ hTO₇ hs₇ => ?_)
  replace hTO₇ : IsTrip h₇ (I + 4) x y v := hTO₇
  refine wpAny_bind (wpAny_letGo (wpAny_pure (wpAny_pure ?_)))
  have e7 : ∀ (d : Nat) o, (d < I ∨ d = I + 3 ∨ I + 5 < d) → s.heap.get? d = some o → h₇.get? d = some o := fun d o hd e => hs₇.extBut _ _ (ne_ (by omega)) (e6 d o (by omega) e)
  have hz₇ : IsZip h₇ (I + 5) (I + 3) (I + 4) .ellipsis := hs₇.extBut _ _ (ne_ (by omega)) hz₆
  have h1₇ : h₇.IsTupleIter I l1 (k1 + 1) := h1₆.at fun o e => hs₇.extBut _ _ (ne_ (by omega)) e
  have h2₇ : h₇.IsTupleIter (I + 1) l2 (k2 + 1) := h2₆.at fun o e => hs₇.extBut _ _ (ne_ (by omega)) e
  have h3₇ : h₇.IsTupleIter (I + 2) l3 (k3 + 1) := h3₆.at fun o e => hs₇.extBut _ _ (ne_ (by omega)) e
  have hsz : h₇.objs.size = s.heap.objs.size := by rw [hs₇.1, hs₆.1, hs₅.1, hs₄.1, hs₃.1, hs₂.1, hs₁.1]
  -- handed out
  refine wpAny_bind (wpAny_seqItems hTO₇ rfl ?_)
  refine wpAny_bind (wpAny_newTuple ?_)
  have zlt : I + 5 < h₇.objs.size := Heap.lt_size hz₇
  show wpAny _ _ (Builtin.SmallTypes.ownedTupleHandOut (.ref (I + 5)) (.ref h₇.objs.size) >>= _) _ _ _
  refine wpAny_bind ?_
  unfold Builtin.SmallTypes.ownedTupleHandOut
  have hz₈ : IsZip (h₇.push { cls := .type "tuple", data := .seq #[x, y, v] }) (I + 5) (I + 3) (I + 4) .ellipsis := Heap.get?_push_of_some _ hz₇
  refine wpAny_bind (wpAny_setField_rec hz₈ (by simp) fun h₉ hz₉ hs₉ => ?_)
  replace hz₉ : IsZip h₉ (I + 5) (I + 3) (I + 4) (rawInt h₇.objs.size) := hz₉
  refine wpAny_setField_rec hz₉ (by simp) fun hA hzA hsA => ?_
  replace hzA : IsZip hA (I + 5) (I + 3) (I + 4) (rawInt h₇.objs.size) := hzA
  have up : ∀ (d : Nat) o, (d < I + 5 ∨ I + 5 < d) → h₇.get? d = some o → hA.get? d = some o := fun d o hd e => hsA.extBut _ _ (ne_ (by omega)) (hs₉.extBut _ _ (ne_ (by omega)) (Heap.get?_push_of_some _ e))
  have hTA : IsTrip hA h₇.objs.size x y v := hsA.extBut _ _ (Nat.ne_of_gt zlt) (hs₉.extBut _ _ (Nat.ne_of_gt zlt) (Heap.get?_push_size _ rfl))
  have hzsz : hA.objs.size = h₇.objs.size + 1 := by rw [hsA.1, hs₉.1, Heap.size_push]
  rw [hsz] at hzA hTA hzsz
  refine wpAny_pure ⟨_, rfl, ?_⟩
  show Q (.ref h₇.objs.size) _
  rw [hsz]
  refine hQ hA ⟨hzA, up (I + 3) _ (by omega) (e7 (I + 3) _ (by omega) hTI), up (I + 4) _ (by omega) hTO₇, h1₇.at fun o e => up I o (by omega) e, h2₇.at fun o e => up (I + 1) o (by omega) e, h3₇.at fun o e => up (I + 2) o (by omega) e⟩ hTA hzsz ?_
  intro d o hd e
  exact up d o (by rcases hd with h | h; exact .inl (Nat.lt_of_lt_of_le h (Nat.le_add_right _ _)); exact .inr h) (e7 d o (by rcases hd with h | h; exact .inl h; exact .inr (.inr h)) e)
theorem next_end {Q : Fin → Shared → Prop} (hh : A.handled = none) (b1 : l1 < I) (b2 : l2 < I) (b3 : l3 < I) (Z : Z3 s.heap I l1 l2 l3 .none k1 k2 k3 a b c)
    (hl1 : s.heap.IsTuple l1 xs) (hl2 : s.heap.IsTuple l2 ys) (hl3 : s.heap.IsTuple l3 zs) (hend : xs[k1]? = none ∨ ys[k2]? = none ∨ zs[k3]? = none)
    (hE : ∀ h' e, (∀ (d : Addr) o, (d < I ∨ I + 5 < d) → s.heap.get? d = some o → h'.get? d = some o) → (∃ o, h'.get? e = some o ∧ o.cls = .type "StopIteration") → E (.ref e) { s with heap := h' }) :
    wpAny (model prog w) A (Builtin.«zip.__next__» ⟨[.ref (I + 5)], []⟩) Q E s := by
  obtain ⟨hz, hTI, hTO, h1, h2, h3⟩ := Z
  show wpAny _ _ (field (.ref (I + 5)) 2 >>= _) _ _ _
  refine wpAny_bind (wpAny_field hz rfl (x := .bool false) rfl ?_)
  show wpAny _ _ (field (.ref (I + 5)) 3 >>= _) _ _ _
  refine wpAny_bind (wpAny_field hz rfl (x := .ref (I + 3)) rfl ?_)
  refine wpAny_bind (wpAny_seqItems hTI rfl ?_)
  show wpAny _ _ (Builtin.SmallTypes.ownedTupleIsFree (.ref (I + 5)) >>= _) _ _ _
  refine wpAny_bind ?_
  unfold Builtin.SmallTypes.ownedTupleIsFree
  refine wpAny_bind (wpAny_field hz rfl (x := .none) rfl (wpAny_pure ?_))
  simp only [if_true]
  refine wpAny_bind (wpAny_rule ?_)
  refine wpAny_bind (wpAny_field hz rfl (x := .ref (I + 4)) rfl ?_)
  refine wpAny_bind (wpAny_setField_rec hz (by simp) fun h₁ hz₁ hs₁ => ?_)
  replace hz₁ : IsZip h₁ (I + 5) (I + 3) (I + 4) .ellipsis := hz₁
  have e1 : ∀ (d : Nat) o, (d < I + 5 ∨ I + 5 < d) → s.heap.get? d = some o → h₁.get? d = some o := fun d o hd e => hs₁.extBut _ _ (ne_ (by omega)) e
  refine wpAny_bind ?_
  simp only [List.zipIdx_cons, List.zipIdx_nil, List.forIn_cons, List.forIn_nil]
  -- the way out
  have out : ∀ (h' : Heap) (e : Addr), IsZip h' (I + 5) (I + 3) (I + 4) .ellipsis → (∀ (d : Nat) o, (d < I ∨ I + 5 < d) → s.heap.get? d = some o → h'.get? d = some o) → (∃ o, h'.get? e = some o ∧ o.cls = .type "StopIteration") →
      wpAny (model prog w) A (setField (.ref (I + 5)) 0 .none) (fun _ s' => E (.ref e) s') E { s with heap := h' } := fun h' e hz' hk he => by
    obtain ⟨oe, hoe, hce⟩ := he
    have hez : e ≠ I + 5 := fun q => by
      rw [q, hz'] at hoe
      cases hoe
      simp at hce
    refine wpAny_setField_rec hz' (by simp) fun h'' _ hs'' => hE h'' e (fun d o hd q => hs''.extBut _ _ (ne_ (by rcases hd with h | h; exact .inl (Nat.lt_of_lt_of_le h (Nat.le_add_right _ _)); exact .inr h)) (hk d o hd q)) ⟨oe, hs''.extBut _ _ hez hoe, hce⟩
  refine wpAny_bind (wpAny_bind (wpAny_onRaise ?_))
  show wpAny _ _ (Builtin.SmallTypes.nextOf (.ref I) >>= _) _ _ _
  have hl1₁ : h₁.IsTuple l1 xs := let ⟨o, e, r⟩ := hl1; ⟨o, e1 l1 o (by omega) e, r⟩
  cases hx : xs[k1]? with
  | none =>
    refine wpAny_bind (nextOf_tuple_end hh (h1.at fun o e => e1 I o (by omega) e) hl1₁ hx fun h₂ e hs₂ he => ?_)
    exact out h₂ e (hs₂ _ _ (ne_ (by omega)) hz₁) (fun d o hd q => hs₂ _ _ (ne_ (by omega)) (e1 d o (by omega) q)) he
  | some x =>
    refine wpAny_bind (nextOf_tuple_item (h1.at fun o e => e1 I o (by omega) e) hl1₁ hx fun h₂ h1₂ hs₂ => wpAny_pure ?_)
    have e2 : ∀ (d : Nat) o, (d < I ∨ (I < d ∧ d < I + 5) ∨ I + 5 < d) → s.heap.get? d = some o → h₂.get? d = some o := fun d o hd e => hs₂.extBut _ _ (ne_ (by omega)) (e1 d o (by omega) e)
    have hTO₂ : IsTrip h₂ (I + 4) a b c := e2 (I + 4) _ (by omega) hTO
    have hz₂ : IsZip h₂ (I + 5) (I + 3) (I + 4) .ellipsis := hs₂.extBut _ _ (ne_ (by omega)) hz₁
    refine wpAny_bind (wpAny_seqItems hTO₂ rfl ?_)
    refine wpAny_bind (updTrip hTO₂ fun h₃ hTO₃ hs₃ => ?_)
    replace hTO₃ : IsTrip h₃ (I + 4) x b c := hTO₃
    refine wpAny_bind (wpAny_letGo (wpAny_pure ?_))
    have e3 : ∀ (d : Nat) o, (d < I ∨ (I < d ∧ d < I + 4) ∨ I + 5 < d) → s.heap.get? d = some o → h₃.get? d = some o := fun d o hd e => hs₃.extBut _ _ (ne_ (by omega)) (e2 d o (by omega) e)
    have hz₃ : IsZip h₃ (I + 5) (I + 3) (I + 4) .ellipsis := hs₃.extBut _ _ (ne_ (by omega)) hz₂
    refine wpAny_bind (wpAny_bind (wpAny_onRaise ?_))
    show wpAny _ _ (Builtin.SmallTypes.nextOf (.ref (I + 1)) >>= _) _ _ _
    have hl2₃ : h₃.IsTuple l2 ys := let ⟨o, e, r⟩ := hl2; ⟨o, e3 l2 o (by omega) e, r⟩
    cases hy : ys[k2]? with
    | none =>
      refine wpAny_bind (nextOf_tuple_end hh (h2.at fun o e => e3 (I + 1) o (by omega) e) hl2₃ hy fun h₄ e hs₄ he => ?_)
      exact out h₄ e (hs₄ _ _ (ne_ (by omega)) hz₃) (fun d o hd q => hs₄ _ _ (ne_ (by omega)) (e3 d o (by omega) q)) he
    | some y =>
      have hv : zs[k3]? = none := by
        rcases hend with h | h | h
        · rw [hx] at h; cases h
        · rw [hy] at h; cases h
        · exact h
      refine wpAny_bind (nextOf_tuple_item (h2.at fun o e => e3 (I + 1) o (by omega) e) hl2₃ hy fun h₄ h2₄ hs₄ => wpAny_pure ?_)
      have e4 : ∀ (d : Nat) o, (d < I ∨ (I + 1 < d ∧ d < I + 4) ∨ I + 5 < d) → s.heap.get? d = some o → h₄.get? d = some o := fun d o hd e => hs₄.extBut _ _ (ne_ (by omega)) (e3 d o (by omega) e)
      have hz₄ : IsZip h₄ (I + 5) (I + 3) (I + 4) .ellipsis := hs₄.extBut _ _ (ne_ (by omega)) hz₃
      have hTO₄ : IsTrip h₄ (I + 4) x b c := hs₄.extBut _ _ (ne_ (by omega)) hTO₃
      refine wpAny_bind (wpAny_seqItems hTO₄ rfl ?_)
      refine wpAny_bind (updTrip hTO₄ fun h₅ hTO₅ hs₅ => ?_)
      refine wpAny_bind (wpAny_letGo (wpAny_pure ?_))
      have e5 : ∀ (d : Nat) o, (d < I ∨ (I + 1 < d ∧ d < I + 4) ∨ I + 5 < d) → s.heap.get? d = some o → h₅.get? d = some o := fun d o hd e => hs₅.extBut _ _ (ne_ (by omega)) (e4 d o (by omega) e)
      have hz₅ : IsZip h₅ (I + 5) (I + 3) (I + 4) .ellipsis := hs₅.extBut _ _ (ne_ (by omega)) hz₄
      refine wpAny_bind (wpAny_bind (wpAny_onRaise ?_))
      show wpAny _ _ (Builtin.SmallTypes.nextOf (.ref (I + 2)) >>= _) _ _ _
      refine wpAny_bind (nextOf_tuple_end hh (h3.at fun o e => e5 (I + 2) o (by omega) e) (let ⟨o, e, r⟩ := hl3; ⟨o, e5 l3 o (by omega) e, r⟩) hv fun h₆ e hs₆ he => ?_)
      exact out h₆ e (hs₆ _ _ (ne_ (by omega)) hz₅) (fun d o hd q => hs₆ _ _ (ne_ (by omega)) (e5 d o (by omega) q)) he
theorem pyNext_item {x y v : Value} {Q : Option Value → Shared → Prop} (b1 : l1 < I) (b2 : l2 < I) (b3 : l3 < I) (Z : Z3 s.heap I l1 l2 l3 .none k1 k2 k3 a b c)
    (hl1 : s.heap.IsTuple l1 xs) (hl2 : s.heap.IsTuple l2 ys) (hl3 : s.heap.IsTuple l3 zs) (hx : xs[k1]? = some x) (hy : ys[k2]? = some y) (hv : zs[k3]? = some v)
    (hQ : ∀ h', Z3 h' I l1 l2 l3 (rawInt s.heap.objs.size) (k1 + 1) (k2 + 1) (k3 + 1) x y v → IsTrip h' s.heap.objs.size x y v → h'.objs.size = s.heap.objs.size + 1 →
      (∀ (d : Addr) o, (d < I ∨ I + 5 < d) → s.heap.get? d = some o → h'.get? d = some o) → Q (some (.ref s.heap.objs.size)) { s with heap := h' }) :
    wpAny (model prog w) A (pyNext (.ref (I + 5))) Q E s := by
  have hT : s.TypeIs (.ref (I + 5)) "zip" := ⟨_, Z.z, rfl⟩
  unfold pyNext
  exact wpAny_bind (wpAny_attempt (wpAny_callSpecial?_slot (name := Str.ofString "__next__") hT F.slot_zip_next
    (wpAny_call_entry F.slot_zip_next hT F.entry_zip_next (next_item b1 b2 b3 Z hl1 hl2 hl3 hx hy hv fun h' a1 a2 a3 a4 => wpAny_pure (hQ h' a1 a2 a3 a4)) (F.args_zip_next_1 _))))
theorem pyNext_end {Q : Option Value → Shared → Prop} (hh : A.handled = none) (b1 : l1 < I) (b2 : l2 < I) (b3 : l3 < I) (Z : Z3 s.heap I l1 l2 l3 .none k1 k2 k3 a b c)
    (hl1 : s.heap.IsTuple l1 xs) (hl2 : s.heap.IsTuple l2 ys) (hl3 : s.heap.IsTuple l3 zs) (hend : xs[k1]? = none ∨ ys[k2]? = none ∨ zs[k3]? = none)
    (hQ : ∀ h', (∀ (d : Addr) o, (d < I ∨ I + 5 < d) → s.heap.get? d = some o → h'.get? d = some o) → Q none { s with heap := h' }) : wpAny (model prog w) A (pyNext (.ref (I + 5))) Q E s := by
  have hT : s.TypeIs (.ref (I + 5)) "zip" := ⟨_, Z.z, rfl⟩
  unfold pyNext
  refine wpAny_bind (wpAny_attempt (wpAny_callSpecial?_slot (name := Str.ofString "__next__") hT F.slot_zip_next
    (wpAny_call_entry F.slot_zip_next hT F.entry_zip_next (next_end hh b1 b2 b3 Z hl1 hl2 hl3 hend fun h' e hk he => ?_) (F.args_zip_next_1 _))))
  obtain ⟨o, ho, hc⟩ := he
  refine wpAny_bind (wpAny_isInstance (T := "StopIteration") (b := true) ⟨o, ho, hc⟩ isSubtype_stop ?_)
  exact wpAny_pure (hQ _ hk)
end
abbrev H1 (h : Heap) (l : Addr) : Heap := h.push { cls := .type "tuple_iterator", data := .fields #[.ref l, .int 0 0] }
abbrev H4 (h : Heap) (l1 l2 l3 : Addr) : Heap := (H1 (H1 (H1 h l1) l2) l3).push { cls := .type "tuple", data := .seq #[.ref h.objs.size, .ref (H1 h l1).objs.size, .ref (H1 (H1 h l1) l2).objs.size] }
abbrev H5 (h : Heap) (l1 l2 l3 : Addr) : Heap := (H4 h l1 l2 l3).push { cls := .type "tuple", data := .seq #[.none, .none, .none] }
abbrev H6 (h : Heap) (l1 l2 l3 : Addr) : Heap := (H5 h l1 l2 l3).push { cls := .type "zip", data := .fields #[.none, .bool false, .bool false, .ref (H1 (H1 (H1 h l1) l2) l3).objs.size, .ref (H4 h l1 l2 l3).objs.size] }
theorem meets_new (l1 l2 l3 : Addr) (xs ys zs : Array Value) :
    Meets (Builtin.«zip.__new__» ⟨[.type "zip", .ref l1, .ref l2, .ref l3], []⟩) (fun _ R s => s.heap.IsTuple l1 xs ∧ s.heap.IsTuple l2 ys ∧ s.heap.IsTuple l3 zs ∧
      R (.ok (.ret (.ref (H5 s.heap l1 l2 l3).objs.size))) { s with heap := H6 s.heap l1 l2 l3 }) :=
  .of_wp fun prog w A R s h => by
    obtain ⟨hp, g, d, tk, os⟩ := s; obtain ⟨hl1, hl2, hl3, h⟩ := h
    have hsub := sub_zip
    have hL1 : Heap.IsTuple (Shared.heap ⟨hp, g, d, tk, os⟩) l1 xs := hl1
    have hL2 : Heap.IsTuple (Shared.heap ⟨H1 hp l1, g, d, tk, os⟩) l2 ys := Heap.IsTuple.push hl2 _
    have hL3 : Heap.IsTuple (Shared.heap ⟨H1 (H1 hp l1) l2, g, d, tk, os⟩) l3 zs := Heap.IsTuple.push (Heap.IsTuple.push hl3 _) _
    wp_walk using wpAny_pyIter_tuple hL1, wpAny_pyIter_tuple hL2, wpAny_pyIter_tuple hL3
    exact ⟨_, rfl, h⟩
section
variable {prog : Program} {w : World} {A : Around} {E : Value → Shared → Prop} {s : Shared}
theorem call3 {l1 l2 l3 : Addr} {xs ys zs : Array Value} {Q : Value → Shared → Prop} (hl1 : s.heap.IsTuple l1 xs) (hl2 : s.heap.IsTuple l2 ys) (hl3 : s.heap.IsTuple l3 zs)
    (h : ∀ h', Z3 h' s.heap.objs.size l1 l2 l3 .none 0 0 0 .none .none .none → (∀ c o, s.heap.get? c = some o → h'.get? c = some o) → Q (.ref (s.heap.objs.size + 5)) { s with heap := h' }) :
    wpAny (model prog w) A (call (.type "zip") [.ref l1, .ref l2, .ref l3]) Q E s := by
  refine callType_new F.called_zip (by decide) (typeCall3 _ _ _) (newCall3 _ _ _) (fun obj => objInit4 obj _ _ _) F.entry_zip_new
    (meets_new l1 l2 l3 xs ys zs) ⟨hl1, hl2, hl3, ?_⟩
  have p : ∀ {h : Heap} {o : Obj} {c : Addr} {u : Obj}, h.get? c = some u → (h.push o).get? c = some u := fun e => Heap.get?_push_of_some _ e
  have n : ∀ {h : Heap} {o : Obj}, o.isFreed = false → (h.push o).get? h.objs.size = some o := fun e => Heap.get?_push_size _ e
  have z1 : (H1 s.heap l1).objs.size = s.heap.objs.size + 1 := Heap.size_push ..
  have z2 : (H1 (H1 s.heap l1) l2).objs.size = s.heap.objs.size + 2 := by rw [Heap.size_push, z1]
  have z3 : (H1 (H1 (H1 s.heap l1) l2) l3).objs.size = s.heap.objs.size + 3 := by rw [Heap.size_push, z2]
  have z4 : (H4 s.heap l1 l2 l3).objs.size = s.heap.objs.size + 4 := by rw [Heap.size_push, z3]
  have z5 : (H5 s.heap l1 l2 l3).objs.size = s.heap.objs.size + 5 := by rw [Heap.size_push, z4]
  have g6 : (H6 s.heap l1 l2 l3).get? (H5 s.heap l1 l2 l3).objs.size = some _ := Heap.get?_push_size _ rfl
  have g5 : (H6 s.heap l1 l2 l3).get? (H4 s.heap l1 l2 l3).objs.size = some _ := p (Heap.get?_push_size _ rfl)
  have g4 : (H6 s.heap l1 l2 l3).get? (H1 (H1 (H1 s.heap l1) l2) l3).objs.size = some _ := p (p (Heap.get?_push_size _ rfl))
  have g3 : (H6 s.heap l1 l2 l3).get? (H1 (H1 s.heap l1) l2).objs.size = some _ := p (p (p (Heap.get?_push_size _ rfl)))
  have g2 : (H6 s.heap l1 l2 l3).get? (H1 s.heap l1).objs.size = some _ := p (p (p (p (Heap.get?_push_size _ rfl))))
  have g1 : (H6 s.heap l1 l2 l3).get? s.heap.objs.size = some _ := p (p (p (p (p (Heap.get?_push_size _ rfl)))))
  show _ ∧ _
  rw [z3, z4, z5] at g6
  rw [z4] at g5
  rw [z1, z2, z3] at g4
  rw [z2] at g3
  rw [z1] at g2
  rw [z5]
  exact ⟨⟨_, g6, rfl⟩, h _ ⟨g6, g4, g5, ⟨_, g1, rfl, rfl⟩, ⟨_, g2, rfl, rfl⟩, ⟨_, g3, rfl, rfl⟩⟩ fun c o x => p (p (p (p (p (p x)))))⟩
end
end RZ3
set_option Elab.async false
set_option linter.all false
set_option maxRecDepth 100000
set_option maxHeartbeats 4000000
set_option autoImplicit false
/-! Sd: zip of three tuples, gone through. -/
namespace Sd
open PySem PySem.Spec PyProof.Rows L2
open RZ3 (Z3 IsTrip)

def Itz3 (K : PySem.W.Frag) (a b c : Addr) : It :=
  ⟨fun i H => ∃ (xs ys zs : List V) (x y z : V), SqT K H a xs ∧ SqT K H b ys ∧ SqT K H c zs ∧ xs[i]? = some x ∧ ys[i]? = some y ∧ zs[i]? = some z,
    fun i H v H' => ∃ T x y z, v = .ref T ∧ H T = none ∧ H' = upd H T (.tup [x, y, z]) ∧ (∀ xs, SqT K H a xs → xs[i]? = some x) ∧ (∀ ys, SqT K H b ys → ys[i]? = some y) ∧ ∀ zs, SqT K H c zs → zs[i]? = some z,
    fun i H => ∃ xs ys zs : List V, SqT K H a xs ∧ SqT K H b ys ∧ SqT K H c zs ∧ (xs.length ≤ i ∨ ys.length ≤ i ∨ zs.length ≤ i)⟩
theorem turn_zip3 {P : Program} {w : World} {K : PySem.W.Frag} {elts : List Expr} {kk : Nat} {tpos : Pos} {a b c I0 : Nat} (b1 : a < I0) (b2 : b < I0) (b3 : c < I0) :
    Turn P w K (.Tuple elts kk tpos) (Itz3 K a b c) [I0 + 5, I0 + 3, I0 + 4, I0, I0 + 1, I0 + 2] (I0 + 5) (fun i h => ∃ x y z, Z3 h I0 a b c .none i i i x y z) where
  mem := by simp
  obj := fun i h st d hd => by
    obtain ⟨x, y, z, hz, hTI, hTO, ⟨o1, e1, _, d1⟩, ⟨o2, e2, _, d2⟩, ⟨o3, e3, _, d3⟩⟩ := st
    have e' : d = I0 + 5 ∨ d = I0 + 3 ∨ d = I0 + 4 ∨ d = I0 ∨ d = I0 + 1 ∨ d = I0 + 2 := by simpa using hd
    rcases e' with q | q | q | q | q | q
    · rw [q]; exact ⟨_, hz, fun v q => nomatch q⟩
    · rw [q]; exact ⟨_, hTI, fun v q => nomatch q⟩
    · rw [q]; exact ⟨_, hTO, fun v q => nomatch q⟩
    · rw [q]; exact ⟨o1, e1, fun v q => by rw [d1] at q; cases q⟩
    · rw [q]; exact ⟨o2, e2, fun v q => by rw [d2] at q; cases q⟩
    · rw [q]; exact ⟨o3, e3, fun v q => by rw [d3] at q; cases q⟩
  keep := fun i h h' st k => by
    obtain ⟨x, y, z, hz, hTI, hTO, h1, h2, h3⟩ := st
    exact ⟨x, y, z, k (I0 + 5) (by simp) _ hz, k (I0 + 3) (by simp) _ hTI, k (I0 + 4) (by simp) _ hTO, h1.at fun o q => k I0 (by simp) o q, h2.at fun o q => k (I0 + 1) (by simp) o q, h3.at fun o q => k (I0 + 2) (by simp) o q⟩
  item := by
    intro X hP hw hK hc i pins s σ H E I hf st hg
    subst hP hw hK
    obtain ⟨x0, y0, z0, Z⟩ := st
    obtain ⟨xs, ys, zs, x, y, z, hqx, hqy, hqz, hx, hy, hz⟩ := hg
    obtain ⟨its, rv, p, _⟩ := I.tuple hqx
    obtain ⟨its2, rv2, p2, _⟩ := I.tuple hqy
    obtain ⟨its3, rv3, p3, _⟩ := I.tuple hqz
    obtain ⟨u, hu, ru⟩ := rv.get hx
    obtain ⟨u2, hu2, ru2⟩ := rv2.get hy
    obtain ⟨u3, hu3, ru3⟩ := rv3.get hz
    have hzl : I0 + 5 < s.heap.objs.size := Heap.lt_size Z.z
    refine RZ3.pyNext_item b1 b2 b3 Z (xs := its.toArray) (ys := its2.toArray) (zs := its3.toArray) p p2 p3 (x := u) (y := u2) (v := u3) (by simpa using hu) (by simpa using hu2) (by simpa using hu3) fun h' Z' hT hsz hk => ?_
    refine ⟨_, rfl, wpAny_letOwnedTupleGo_zip (s := { s with heap := h' }) Z'.z fun h'' z'' sb => ?_⟩
    have hT2 : h''.get? s.heap.objs.size = some { cls := .type "tuple", data := .seq #[u, u2, u3] } := (sb.2 _ (Nat.ne_of_gt hzl)).trans hT
    have new : ObjOk X.prog X.w (upd H s.heap.objs.size (.tup [x, y, z])) h'' s.heap.objs.size (.tup [x, y, z]) :=
      ⟨by show 3 ≤ sizeLine; decide, [u, u2, u3], .cons ru (.cons ru2 (.cons ru3 .nil)), ⟨_, hT2, rfl, _, rfl⟩⟩
    have far : ∀ d : Addr, d ∉ [I0 + 5, I0 + 3, I0 + 4, I0, I0 + 1, I0 + 2] → d < I0 ∨ I0 + 5 < d := fun d hd => by
      have hd' : ¬ (d = I0 + 5 ∨ d = I0 + 3 ∨ d = I0 + 4 ∨ d = I0 ∨ d = I0 + 1 ∨ d = I0 + 2) := by simpa using hd
      have g : ∀ n : Nat, ¬ (n = I0 + 5 ∨ n = I0 + 3 ∨ n = I0 + 4 ∨ n = I0 ∨ n = I0 + 1 ∨ n = I0 + 2) → n < I0 ∨ I0 + 5 < n := fun n h => by omega
      exact g d hd'
    have I1 : Inv X pins σ (upd H s.heap.objs.size (.tup [x, y, z])) { s with heap := h'' } :=
      I.turnedNew (t' := s.toks) (ch := [I0 + 5, I0 + 3, I0 + 4, I0, I0 + 1, I0 + 2]) (fun d o hb q => (sb.2 d (fun q' => hb (by simp [q']))).trans (hk d o (far d hb) q)) hf (Nat.le_refl _) new
    have zz : Z3 h'' I0 a b c .none (i + 1) (i + 1) (i + 1) u u2 u3 := ⟨z'', (sb.2 _ (RZ3.ne_ (by omega))).trans Z'.ti, (sb.2 _ (RZ3.ne_ (by omega))).trans Z'.to, Z'.i1.at fun o q => (sb.2 _ (RZ3.ne_ (by omega))).trans q, Z'.i2.at fun o q => (sb.2 _ (RZ3.ne_ (by omega))).trans q, Z'.i3.at fun o q => (sb.2 _ (RZ3.ne_ (by omega))).trans q⟩
    refine ⟨.ref s.heap.objs.size, _, I1, rfl, ⟨_, x, y, z, rfl, I.hok.fresh (Nat.le_refl _), rfl, fun l hl => by rw [I.tuple_inj hl hqx]; exact hx, fun l hl => by rw [I.tuple_inj hl hqy]; exact hy, fun l hl => by rw [I.tuple_inj hl hqz]; exact hz⟩, ⟨u, u2, u3, zz⟩, fun d hcm => ?_⟩
    have hlt : d < s.heap.objs.size := by
      have e' : d = I0 + 5 ∨ d = I0 + 3 ∨ d = I0 + 4 ∨ d = I0 ∨ d = I0 + 1 ∨ d = I0 + 2 := by simpa using hcm
      have g : ∀ n : Nat, (n = I0 + 5 ∨ n = I0 + 3 ∨ n = I0 + 4 ∨ n = I0 ∨ n = I0 + 1 ∨ n = I0 + 2) → n < s.heap.objs.size := fun n h => by omega
      exact g d e'
    rw [upd_ne (Nat.ne_of_lt hlt)]
    exact (hf d hcm).1
  done := by
    intro X hP hw hK hc i pins s σ H E I hf st hg
    subst hP hw hK
    obtain ⟨x0, y0, z0, Z⟩ := st
    obtain ⟨xs, ys, zs, hqx, hqy, hqz, hend⟩ := hg
    obtain ⟨its, rv, p, _⟩ := I.tuple hqx
    obtain ⟨its2, rv2, p2, _⟩ := I.tuple hqy
    obtain ⟨its3, rv3, p3, _⟩ := I.tuple hqz
    have l1 := rv.length
    have l2 := rv2.length
    have l3 := rv3.length
    have he : its.toArray[i]? = none ∨ its2.toArray[i]? = none ∨ its3.toArray[i]? = none := by
      rcases hend with q | q | q
      · exact .inl (by simp; omega)
      · exact .inr (.inl (by simp; omega))
      · exact .inr (.inr (by simp; omega))
    refine RZ3.pyNext_end (I.ok.hd hc) b1 b2 b3 Z p p2 p3 he fun h' hk => ⟨rfl, I.turnedL (t' := s.toks) (ch := [I0 + 5, I0 + 3, I0 + 4, I0, I0 + 1, I0 + 2]) (fun d o hb q => hk d o ?_ q) hf⟩
    have hd' : ¬ (d = I0 + 5 ∨ d = I0 + 3 ∨ d = I0 + 4 ∨ d = I0 ∨ d = I0 + 1 ∨ d = I0 + 2) := by simpa using hb
    have g : ∀ n : Nat, ¬ (n = I0 + 5 ∨ n = I0 + 3 ∨ n = I0 + 4 ∨ n = I0 ∨ n = I0 + 1 ∨ n = I0 + 2) → n < I0 ∨ I0 + 5 < n := fun n h => by omega
    exact g d hd'
  self := fun A i s Q E st h => let ⟨_, _, _, Z⟩ := st; wpAny_pyIter_zip Z.z h
def iZip3 (K : PySem.W.Frag) (ta : TA) : TI := fun σ H R => ta σ H fun vs H1 => ∃ a b c xs ys zs, vs = [.ref a, .ref b, .ref c] ∧ SqT K H1 a xs ∧ SqT K H1 b ys ∧ SqT K H1 c zs ∧ R (Itz3 K a b c) H1
theorem pi_zip3 {X : Cx} {e e2 e3 : Expr} {ta : TA} {p pos tpos : Pos} {elts : List Expr} {kk : Nat} (hg : Gl X "zip") (hm : X.mg "zip" = none) (ha : PA X [e, e2, e3] ta)
    (hs : starEach [e, e2, e3] X.env = (false, eval e X.env) :: starEach [e2, e3] X.env := by rfl) (hpl : (backTo pos (starEach [e2, e3] X.env)).any (·.1) = false := by rfl) :
    PI X (.Tuple elts kk tpos) (.Call (.Name "zip" p) [e, e2, e3] [] pos) (iZip3 X.K ta) := by
  refine ⟨fun pins s σ H R I h => ?_⟩
  refine Call_ (ld_blt I hg hm PyProof.Rows.boot_zip (PyProof.Rows.callWith_type1 (thn (ha.run pos pins s σ H _ I h) fun us s1 ⟨vs, H1, I1, r1, q1⟩ => ?_) hs hpl))
  obtain ⟨a, b, c, xs, ys, zs, ex, hqx, hqy, hqz, q⟩ := q1
  subst ex
  cases r1 with
  | cons r rr =>
    cases rr with
    | cons r' rr =>
      cases rr with
      | cons r'' rr =>
        cases rr
        cases r
        cases r'
        cases r''
        obtain ⟨its, rv, p1, _⟩ := I1.tuple hqx
        obtain ⟨its2, rv2, p2, _⟩ := I1.tuple hqy
        obtain ⟨its3, rv3, p3, _⟩ := I1.tuple hqz
        obtain ⟨o1, ho1, _⟩ := id p1
        obtain ⟨o2, ho2, _⟩ := id p2
        obtain ⟨o3, ho3, _⟩ := id p3
        refine RZ3.call3 (show s1.heap.IsTuple a its.toArray from p1) (show s1.heap.IsTuple b its2.toArray from p2) (show s1.heap.IsTuple c its3.toArray from p3) fun h' Z hk => wpAny_pyIter_zip Z.z ?_
        have I2 : Inv X pins σ H1 { s1 with heap := h' } := I1.kept (t' := s1.toks) hk
        refine ⟨s1.heap.objs.size + 5, [s1.heap.objs.size + 5, s1.heap.objs.size + 3, s1.heap.objs.size + 4, s1.heap.objs.size, s1.heap.objs.size + 1, s1.heap.objs.size + 2], _, _, H1, rfl, I2, turn_zip3 (Heap.lt_size ho1) (Heap.lt_size ho2) (Heap.lt_size ho3), ⟨_, _, _, Z⟩, fun d hcm => ?_, q⟩
        have e' : d = s1.heap.objs.size + 5 ∨ d = s1.heap.objs.size + 3 ∨ d = s1.heap.objs.size + 4 ∨ d = s1.heap.objs.size ∨ d = s1.heap.objs.size + 1 ∨ d = s1.heap.objs.size + 2 := by simpa using hcm
        have g : ∀ n : Nat, (n = s1.heap.objs.size + 5 ∨ n = s1.heap.objs.size + 3 ∨ n = s1.heap.objs.size + 4 ∨ n = s1.heap.objs.size ∨ n = s1.heap.objs.size + 1 ∨ n = s1.heap.objs.size + 2) → s1.heap.objs.size ≤ n := fun n h => by omega
        have hle : s1.heap.objs.size ≤ d := g d e'
        exact I1.fpOk hle (I1.hok.fresh hle)
def zip3D (xs ys zs : List D) : List D := List.zipWith (fun (x : D) (p : D × D) => .tuple [x, p.1, p.2]) xs (ys.zip zs)
theorem zip3D_length (xs ys zs : List D) : (zip3D xs ys zs).length = min xs.length (min ys.length zs.length) := by simp [zip3D]
theorem zip3D_get {xs ys zs : List D} {i : Nat} {x y z : D} (h1 : xs[i]? = some x) (h2 : ys[i]? = some y) (h3 : zs[i]? = some z) : (zip3D xs ys zs)[i]? = some (.tuple [x, y, z]) := by
  unfold zip3D
  have h4 : (ys.zip zs)[i]? = some (y, z) := by
    rw [List.getElem?_zip_eq_some]
    exact ⟨h2, h3⟩
  rw [List.getElem?_zipWith, h1, h4]
theorem yld_trip {c : Cn} {G H : Hp} {Tp : Addr} {x y z : V} {d e f : D} (s2 : Same G H) (nt : ∀ a ps, G a ≠ some (.tbl ps)) (hT : H Tp = none) (r1 : Rep c G x d) (r2 : Rep c G y e) (r3 : Rep c G z f) : ∃ G', TrN G H G' (upd H Tp (.tup [x, y, z])) ∧ Rep c G' (.ref Tp) (.tuple [d, e, f]) := by
  have tn := TrN.new (o := .tup [x, y, z]) s2 nt hT (fun ps z => by cases z)
  exact ⟨_, tn, .tup (.inl (.inl upd_same)) (.cons (r1.mono tn.g) (.cons (r2.mono tn.g) (.cons (r3.mono tn.g) .nil)))⟩
theorem io_zip3 {c : Cn} {G0 : Hp} {a b d : Addr} {vs ws us : List V} {ds es fs : List D} (sq : SqT c.K G0 a vs) (rs : Reps c G0 vs ds) (sq2 : SqT c.K G0 b ws) (rs2 : Reps c G0 ws es) (sq3 : SqT c.K G0 d us) (rs3 : Reps c G0 us fs) : IterOk c (Itz3 c.K a b d) G0 (zip3D ds es fs) where
  go := fun G H i s1 s2 hi => by
    rw [zip3D_length] at hi
    obtain ⟨v, e, _⟩ := rs.get i (List.getElem?_eq_getElem (show i < ds.length by omega))
    obtain ⟨w, e2, _⟩ := rs2.get i (List.getElem?_eq_getElem (show i < es.length by omega))
    obtain ⟨u, e3, _⟩ := rs3.get i (List.getElem?_eq_getElem (show i < fs.length by omega))
    exact ⟨vs, ws, us, v, w, u, sqt_mono (s1.trans s2) sq, sqt_mono (s1.trans s2) sq2, sqt_mono (s1.trans s2) sq3, e, e2, e3⟩
  yld := fun G H i x H' s1 s2 nt hi h => by
    obtain ⟨Tp, y, z, u, rfl, hT, rfl, h1, h2, h3⟩ := h
    obtain ⟨d1, e1, r1⟩ := rs.getV i (h1 vs (sqt_mono (s1.trans s2) sq))
    obtain ⟨d2, e2, r2⟩ := rs2.getV i (h2 ws (sqt_mono (s1.trans s2) sq2))
    obtain ⟨d3, e3, r3⟩ := rs3.getV i (h3 us (sqt_mono (s1.trans s2) sq3))
    obtain ⟨G', tn, r⟩ := yld_trip s2 nt hT (r1.mono s1) (r2.mono s1) (r3.mono s1)
    exact ⟨_, G', zip3D_get e1 e2 e3, tn, r⟩
  stop := fun G H i s1 s2 hi => by
    rw [zip3D_length, ← rs.length, ← rs2.length, ← rs3.length] at hi
    exact ⟨vs, ws, us, sqt_mono (s1.trans s2) sq, sqt_mono (s1.trans s2) sq2, sqt_mono (s1.trans s2) sq3, by omega⟩
def zip3Of : List D → Option (List D)
  | [.tuple xs, .tuple ys, .tuple zs] => some (zip3D xs ys zs)
  | _ => none
def sZip3 (as : M (List D)) : M (List D) := fun ρ => (as ρ).bind fun ds ρ' => Res.ofO (zip3Of ds) ρ'
section
variable {X : Cx} {T : Fx} {W : Sd.WX} {e e2 e3 : Expr} {as : M (List D)} {p pos tpos : Pos} {elts : List Expr} {kk : Nat}
theorem pi_zip3D (hg : Gl X "zip") (hm : X.mg "zip" = none) (ha : PA X [e, e2, e3] (dA (cnOf X) T W as)) (hs : noStar e = true) (hs2 : ([e2, e3] : List Expr).all noStar = true) : PI X (.Tuple elts kk tpos) (.Call (.Name "zip" p) [e, e2, e3] [] pos) (dI (cnOf X) T W (sZip3 as)) :=
  impPI (pi_zip3 hg hm ha (starEach_cons hs) (any_star (es := [e2, e3]) hs2)) fun σ H R h => imp_as h fun G vs ds items H1 hF rs sub k => by
    unfold zip3Of at hF
    split at hF
    · cases hF
      cases rs with
      | cons a b =>
        cases b with
        | cons b c =>
          cases c with
          | cons c d =>
            cases d
            cases a with
            | tup q1 r1 => cases b with
              | tup q2 r2 => cases c with
                | tup q3 r3 => exact ⟨_, _, _, _, _, _, rfl, sqt_mono sub q1, sqt_mono sub q2, sqt_mono sub q3, k _ (io_zip3 q1 r1 q2 r2 q3 r3)⟩
    · cases hF
end
end Sd
set_option Elab.async false
set_option linter.all false
set_option maxRecDepth 100000
set_option maxHeartbeats 4000000
set_option autoImplicit false
/-! Sd: running the semantics by simp. -/
namespace Sd
open PySem PySem.Spec PyProof.Rows L2

@[simp] theorem frz_val (d : D) : (Sl.val d).frz = d := rfl
@[simp] theorem frz_lst (xs : List D) : (Sl.own (.lst xs)).frz = .list xs := rfl
@[simp] theorem frz_dct (xs : List (D × D)) : (Sl.own (.dct xs)).frz = .dict xs := rfl
@[simp] theorem obfrz_lst (xs : List D) : (Ob.lst xs).frz = .list xs := rfl
@[simp] theorem obfrz_dct (xs : List (D × D)) : (Ob.dct xs).frz = .dict xs := rfl
@[simp] theorem ph1_nm (i : Nat) (ρ : Ev) : (Opd.nm i).ph1 ρ = match ρ[i]? with | some (some _) => .ok none ρ | _ => .bad := Eq.trans rfl rfl
@[simp] theorem ph1_ex (f : M Sl) (ρ : Ev) : (Opd.ex f).ph1 ρ = (f ρ).bind fun r ρ' => .ok (some r.frz) ρ' := Eq.trans rfl rfl
@[simp] theorem ph2_nm (i : Nat) (x : Option D) (ρ : Ev) : (Opd.nm i).ph2 x ρ = match ρ[i]? with | some (some s) => some s.frz | _ => none := Eq.trans rfl rfl
@[simp] theorem ph2_ex (f : M Sl) (x : Option D) (ρ : Ev) : (Opd.ex f).ph2 x ρ = x := Eq.trans rfl rfl
@[simp] theorem sOp2_ap (p : D → D → Option Sl) (A B : Opd) (ρ : Ev) : sOp2 p A B ρ = (A.ph1 ρ).bind fun x ρ1 => (B.ph1 ρ1).bind fun y ρ2 => Res.ofO ((A.ph2 x ρ2).bind fun d => (B.ph2 y ρ2).bind (p d)) ρ2 := by
  unfold sOp2 sN ph1s
  cases A.ph1 ρ with
  | bad => rfl
  | exc c ρ' => rfl
  | ok x ρ1 =>
    unfold ph1s
    simp only [Res.bind_ok]
    cases B.ph1 ρ1 with
    | bad => rfl
    | exc c ρ' => rfl
    | ok y ρ2 =>
      unfold ph1s
      simp only [Res.bind_ok, ph2s]
      cases A.ph2 x ρ2 with
      | none => rfl
      | some d => cases B.ph2 y ρ2 <;> rfl
@[simp] theorem sOp1_ap (p : D → Option Sl) (A : Opd) (ρ : Ev) : sOp1 p A ρ = (A.ph1 ρ).bind fun x ρ1 => Res.ofO ((A.ph2 x ρ1).bind p) ρ1 := by
  unfold sOp1 sN ph1s
  cases A.ph1 ρ with
  | bad => rfl
  | exc c ρ' => rfl
  | ok x ρ1 =>
    unfold ph1s
    simp only [Res.bind_ok, ph2s]
    cases A.ph2 x ρ1 <;> rfl
@[simp] theorem sN1_ap (p : List D → Option Sl) (A : Opd) (ρ : Ev) : sN p [A] ρ = (A.ph1 ρ).bind fun x ρ1 => Res.ofO ((A.ph2 x ρ1).bind fun d => p [d]) ρ1 := by
  unfold sN ph1s
  cases A.ph1 ρ with
  | bad => rfl
  | exc c ρ' => rfl
  | ok x ρ1 =>
    unfold ph1s
    simp only [Res.bind_ok, ph2s]
    cases A.ph2 x ρ1 <;> rfl
@[simp] theorem sN2_ap (p : List D → Option Sl) (A B : Opd) (ρ : Ev) : sN p [A, B] ρ = (A.ph1 ρ).bind fun x ρ1 => (B.ph1 ρ1).bind fun y ρ2 => Res.ofO ((A.ph2 x ρ2).bind fun d => (B.ph2 y ρ2).bind fun e => p [d, e]) ρ2 := by
  unfold sN ph1s
  cases A.ph1 ρ with
  | bad => rfl
  | exc c ρ' => rfl
  | ok x ρ1 =>
    unfold ph1s
    simp only [Res.bind_ok]
    cases B.ph1 ρ1 with
    | bad => rfl
    | exc c ρ' => rfl
    | ok y ρ2 =>
      unfold ph1s
      simp only [Res.bind_ok, ph2s]
      cases A.ph2 x ρ2 with
      | none => rfl
      | some d => cases B.ph2 y ρ2 <;> rfl
@[simp] theorem bTru_ap (A : Opd) (ρ : Ev) : bTru A ρ = (A.ph1 ρ).bind fun x ρ1 => Res.ofO ((A.ph2 x ρ1).bind truD) ρ1 := by
  unfold bTru bN ph1s
  cases A.ph1 ρ with
  | bad => rfl
  | exc c ρ' => rfl
  | ok x ρ1 =>
    unfold ph1s
    simp only [Res.bind_ok, ph2s]
    cases A.ph2 x ρ1 <;> rfl
@[simp] theorem sVar_ap (i : Nat) (ρ : Ev) : sVar i ρ = match ρ[i]? with
  | some (some (.val d)) => .ok (.val d) ρ
  | some (some (.own o)) => .ok (.val o.frz) (ρ.set i (some (.val o.frz)))
  | _ => .bad := Eq.trans rfl rfl
@[simp] theorem sC_ap (d : D) (ρ : Ev) : sC d ρ = .ok (.val d) ρ := Eq.trans rfl rfl
@[simp] theorem boolD_b (b : Bool) : boolD (.val (.bool b)) = some b := rfl
@[simp] theorem sIf_ap (b : M Bool) (f g : M Sl) (ρ : Ev) : sIf b f g ρ = (b ρ).bind fun x ρ' => if x = true then f ρ' else g ρ' := Eq.trans rfl rfl
@[simp] theorem sAnd_ap (f g : M Sl) (ρ : Ev) : sAnd f g ρ = (f ρ).bind fun r ρ' => match boolD r with
  | some b => if b = true then g ρ' else .ok (.val (.bool false)) ρ'
  | none => .bad := Eq.trans rfl rfl
@[simp] theorem sOr_ap (f g : M Sl) (ρ : Ev) : sOr f g ρ = (f ρ).bind fun r ρ' => match boolD r with
  | some b => if b = true then .ok (.val (.bool true)) ρ' else g ρ'
  | none => .bad := Eq.trans rfl rfl
@[simp] theorem sNot_ap (f : M Sl) (ρ : Ev) : sNot f ρ = (f ρ).bind fun r ρ' => match boolD r with
  | some b => .ok (.val (.bool (!b))) ρ'
  | none => .bad := Eq.trans rfl rfl
@[simp] theorem bAnd_ap (f g : M Bool) (ρ : Ev) : bAnd f g ρ = (f ρ).bind fun x ρ' => if x = true then g ρ' else .ok false ρ' := Eq.trans rfl rfl
@[simp] theorem bOr_ap (f g : M Bool) (ρ : Ev) : bOr f g ρ = (f ρ).bind fun x ρ' => if x = true then .ok true ρ' else g ρ' := Eq.trans rfl rfl
@[simp] theorem bNot_ap (f : M Bool) (ρ : Ev) : bNot f ρ = (f ρ).bind fun x ρ' => .ok (!x) ρ' := Eq.trans rfl rfl
@[simp] theorem bVal_ap (f : M Sl) (ρ : Ev) : bVal f ρ = (f ρ).bind fun r ρ' => match boolD r with
  | some b => .ok b ρ'
  | none => .bad := Eq.trans rfl rfl
@[simp] theorem bYes_ap (ρ : Ev) : bYes ρ = .ok true ρ := Eq.trans rfl rfl
@[simp] theorem aN_ap (ρ : Ev) : aN ρ = .ok [] ρ := Eq.trans rfl rfl
@[simp] theorem aC_ap (f : M Sl) (as : M (List D)) (ρ : Ev) : aC f as ρ = (f ρ).bind fun r ρ1 => (as ρ1).bind fun ds ρ2 => .ok (r.frz :: ds) ρ2 := Eq.trans rfl rfl
@[simp] theorem aS_ap (f : M Sl) (as : M (List D)) (ρ : Ev) : aS f as ρ = (f ρ).bind fun r ρ1 => match seqD r.frz with
  | some xs => (as ρ1).bind fun ds ρ2 => .ok (xs ++ ds) ρ2
  | none => .bad := Eq.trans rfl rfl
@[simp] theorem seqD_l (xs : List D) : seqD (.list xs) = some xs := rfl
@[simp] theorem seqD_t (xs : List D) : seqD (.tuple xs) = some xs := rfl
@[simp] theorem sTup_ap (as : M (List D)) (ρ : Ev) : sTup as ρ = (as ρ).bind fun ds ρ' => if ds.length ≤ sizeLine then .ok (.val (.tuple ds)) ρ' else .bad := Eq.trans rfl rfl
@[simp] theorem sLst_ap (as : M (List D)) (ρ : Ev) : sLst as ρ = (as ρ).bind fun ds ρ' => if ds.length ≤ sizeLine then .ok (.own (.lst ds)) ρ' else .bad := Eq.trans rfl rfl
@[simp] theorem sDict0_ap (ρ : Ev) : sDict0 ρ = .ok (.own (.dct [])) ρ := Eq.trans rfl rfl
@[simp] theorem sCall_ap (F : Fn) (as : M (List D)) (ρ : Ev) : sCall F as ρ = (as ρ).bind fun ds ρ' => match F ds with
  | .ok r => .ok r ρ'
  | _ => .bad := Eq.trans rfl rfl
@[simp] theorem sCallL_ap (F : FnL) (j : Nat) (as : M (List D)) (ρ : Ev) : sCallL F j as ρ = match ρ[j]? with
  | some (some (.own _)) => (as ρ).bind fun ds ρ' => match ρ'[j]? with
    | some (some (.own o)) => match F o ds with
      | .ok r s => .ok r (ρ'.set j (some s))
      | _ => .bad
    | _ => .bad
  | _ => .bad := Eq.trans rfl rfl
@[simp] theorem sLM_ap (op : LM) (i : Nat) (as : M (List D)) (ρ : Ev) : sLM op i as ρ = match ρ[i]? with
  | some (some (.own (.lst _))) => (as ρ).bind fun ds ρ1 => match ρ1[i]? with
    | some (some (.own (.lst xs))) => match op xs ds with
      | some (r, ys) => .ok (.val r) (ρ1.set i (some (.own (.lst ys))))
      | none => .bad
    | _ => .bad
  | _ => .bad := Eq.trans rfl rfl
@[simp] theorem bd_no (ρ : Ev) : Bd.no.run ρ = .ok none ρ := Eq.trans rfl rfl
@[simp] theorem intD_i (i : Int) : intD (.val (.int i)) = some i := rfl
@[simp] theorem bd_ex (f : M Sl) (ρ : Ev) : (Bd.ex f).run ρ = (f ρ).bind fun r ρ' => match intD r with
    | some i => .ok (some i) ρ'
    | none => .bad := Eq.trans rfl rfl
@[simp] theorem sSl_ap (A : Opd) (lo hi : Bd) (ρ : Ev) : sSl A lo hi ρ = (A.ph1 ρ).bind fun x ρ1 => (lo.run ρ1).bind fun l ρ2 => (hi.run ρ2).bind fun h ρ3 => Res.ofO ((A.ph2 x ρ3).bind (pSl l h)) ρ3 := Eq.trans rfl rfl
@[simp] theorem sCh_ap (p p' : D → D → Option Sl) (A B C : Opd) (ρ : Ev) : sCh p p' A B C ρ = (A.ph1 ρ).bind fun x ρ1 => (B.ph1 ρ1).bind fun y ρ2 => match ((A.ph2 x ρ2).bind fun d => (B.ph2 y ρ2).bind (p d)).bind boolD with
  | none => .bad
  | some false => .ok (.val (.bool false)) ρ2
  | some true => (C.ph1 ρ2).bind fun z ρ3 => Res.ofO ((B.ph2 y ρ3).bind fun d => (C.ph2 z ρ3).bind (p' d)) ρ3 := Eq.trans rfl rfl
@[simp] theorem sIt_ap (f : M Sl) (ρ : Ev) : sIt f ρ = (f ρ).bind fun r ρ' => match iterD r.frz with
  | some xs => .ok xs ρ'
  | none => .bad := Eq.trans rfl rfl
@[simp] theorem iterD_l (xs : List D) : iterD (.list xs) = some xs := rfl
@[simp] theorem iterD_t (xs : List D) : iterD (.tuple xs) = some xs := rfl
@[simp] theorem iterD_s (x : Str) : iterD (.str x) = some (strItems x) := rfl
theorem sRange1_ap (as : M (List D)) (ρ : Ev) : sRange1 as ρ = (as ρ).bind fun ds ρ' => Res.ofO (range1Of ds) ρ' := Eq.trans rfl rfl
theorem sRange2_ap (as : M (List D)) (ρ : Ev) : sRange2 as ρ = (as ρ).bind fun ds ρ' => Res.ofO (range2Of ds) ρ' := Eq.trans rfl rfl
@[simp] theorem sZip_ap (as : M (List D)) (ρ : Ev) : sZip as ρ = (as ρ).bind fun ds ρ' => Res.ofO (zipOf ds) ρ' := Eq.trans rfl rfl
@[simp] theorem sEnum_ap (as : M (List D)) (ρ : Ev) : sEnum as ρ = (as ρ).bind fun ds ρ' => Res.ofO (enumOf ds) ρ' := Eq.trans rfl rfl
@[simp] theorem mNext_ap (ρ : Ev) : mNext ρ = .nx ρ := Eq.trans rfl rfl
@[simp] theorem mSeq_ap (m n : MS) (ρ : Ev) : mSeq m n ρ = (m ρ).seq n := Eq.trans rfl rfl
@[simp] theorem mIf_ap (b : M Bool) (m n : MS) (ρ : Ev) : mIf b m n ρ = (b ρ).out fun x ρ' => if x = true then m ρ' else n ρ' := Eq.trans rfl rfl
@[simp] theorem mRet_ap (f : M Sl) (ρ : Ev) : mRet f ρ = (f ρ).out fun r ρ' => .rt r ρ' := Eq.trans rfl rfl
@[simp] theorem mRetV_ap (i : Nat) (ρ : Ev) : mRetV i ρ = match ρ[i]? with
  | some (some s) => .rt s (ρ.set i none)
  | _ => .bad := Eq.trans rfl rfl
@[simp] theorem mRetN_ap (ρ : Ev) : mRetN ρ = .rt (.val .none) ρ := Eq.trans rfl rfl
@[simp] theorem mBreak_ap (ρ : Ev) : mBreak ρ = .bk ρ := Eq.trans rfl rfl
@[simp] theorem mCont_ap (ρ : Ev) : mCont ρ = .ct ρ := Eq.trans rfl rfl
@[simp] theorem mDrop_ap (f : M Sl) (ρ : Ev) : mDrop f ρ = (f ρ).out fun _ ρ' => .nx ρ' := Eq.trans rfl rfl
@[simp] theorem mSet_ap (i : Nat) (f : M Sl) (ρ : Ev) : mSet i f ρ = (f ρ).out fun r ρ' => .nx (ρ'.set i (some r)) := Eq.trans rfl rfl
@[simp] theorem mAsg_ap (t : Tgt) (f : M Sl) (ρ : Ev) : mAsg t f ρ = (f ρ).out fun r ρ' => match assignT t r.frz ρ' with
  | some ρ2 => .nx ρ2
  | none => .bad := Eq.trans rfl rfl
@[simp] theorem mPar2_ap (i j : Nat) (f g : M Sl) (ρ : Ev) : mPar2 i j f g ρ = (f ρ).out fun r ρ1 => (g ρ1).out fun s ρ2 => .nx ((ρ2.set i (some r)).set j (some s)) := Eq.trans rfl rfl
@[simp] theorem mStore_ap (i : Nat) (g f : M Sl) (ρ : Ev) : mStore i g f ρ = (f ρ).out fun r ρ1 => match ρ1[i]? with
  | some (some (.own _)) => (g ρ1).out fun k ρ2 => match ρ2[i]? with
    | some (some (.own ob)) => match storeOb ob k.frz r.frz with
      | some ob' => .nx (ρ2.set i (some (.own ob')))
      | none => .bad
    | _ => .bad
  | _ => .bad := Eq.trans rfl rfl
theorem mFor_ap (it : M (List D)) (t : Tgt) (body : MS) (ρ : Ev) : mFor it t body ρ = (it ρ).out fun items ρ' => forItems t body items ρ' := Eq.trans rfl rfl
@[simp] theorem assignT_nm (i : Nat) (d : D) (ρ : Ev) : assignT (.nm i) d ρ = some (ρ.set i (some (.val d))) := by simp only [assignT]
@[simp] theorem assignT_tup (ts : List Tgt) (ds : List D) (ρ : Ev) : assignT (.tup ts) (.tuple ds) ρ = assignTs ts ds ρ := by simp only [assignT]
@[simp] theorem assignTs_nil (ρ : Ev) : assignTs [] [] ρ = some ρ := by simp only [assignTs]
@[simp] theorem assignTs_cons (t : Tgt) (ts : List Tgt) (d : D) (ds : List D) (ρ : Ev) : assignTs (t :: ts) (d :: ds) ρ = (assignT t d ρ).bind fun ρ' => assignTs ts ds ρ' := by simp only [assignTs]
@[simp] theorem wipeE_nil (ρ : Ev) : wipeE ρ [] = ρ := rfl
@[simp] theorem wipeE_cons (ρ : Ev) (v : Nat) (vs : List Nat) : wipeE ρ (v :: vs) = (wipeE ρ vs).set v none := rfl
@[simp] theorem restoreE_nil (a b : Ev) : restoreE a b [] = b := rfl
@[simp] theorem restoreE_cons (a b : Ev) (v : Nat) (vs : List Nat) : restoreE a b (v :: vs) = (restoreE a b vs).set v (keepV (a[v]?.getD none)) := rfl
@[simp] theorem keepV_none : keepV none = none := rfl
@[simp] theorem keepV_val (d : D) : keepV (some (.val d)) = some (.val d) := rfl
@[simp] theorem slots_nm (i : Nat) : (Tgt.nm i).slots = [i] := by simp only [Tgt.slots]
@[simp] theorem slots_tup (ts : List Tgt) : (Tgt.tup ts).slots = slotss ts := by simp only [Tgt.slots]
@[simp] theorem slotss_nil : slotss [] = [] := by simp only [slotss]
@[simp] theorem slotss_cons (t : Tgt) (ts : List Tgt) : slotss (t :: ts) = t.slots ++ slotss ts := by simp only [slotss]
/-! ints -/
@[simp] theorem plain_int (i : Int) : (PyData.int i).plain = true := by simp [PyData.plain]
@[simp] theorem plain_bool (i : Bool) : (PyData.bool i).plain = true := by simp [PyData.plain]
@[simp] theorem plain_str (i : Str) : (PyData.str i).plain = true := by simp [PyData.plain]
@[simp] theorem plain_none : (PyData.none).plain = true := by simp [PyData.plain]
@[simp] theorem plain_list (xs : List D) : (PyData.list xs).plain = PyData.plainAll xs := by simp [PyData.plain]
@[simp] theorem plain_tuple (xs : List D) : (PyData.tuple xs).plain = PyData.plainAll xs := by simp [PyData.plain]
@[simp] theorem plainAll_nil : PyData.plainAll [] = true := by simp [PyData.plainAll]
@[simp] theorem plainAll_cons (x : D) (xs : List D) : PyData.plainAll (x :: xs) = (x.plain && PyData.plainAll xs) := by simp [PyData.plainAll]
@[simp] theorem okLt_int (i j : Int) : okLt (.int i) (.int j) = true := by simp [okLt, PySem.W.alike, PyData.depth, isNoneD]
@[simp] theorem pLt_int (i j : Int) : pLt (.int i) (.int j) = some (.val (.bool (decide (i < j)))) := by simp [pLt, vB, PySem.W.dataLt_int]
@[simp] theorem pGt_int (i j : Int) : pGt (.int i) (.int j) = some (.val (.bool (decide (j < i)))) := by simp [pGt, vB, PySem.W.dataLt_int]
@[simp] theorem pLe_int (i j : Int) : pLe (.int i) (.int j) = some (.val (.bool (decide (i ≤ j)))) := by
  have : (!decide (j < i)) = decide (i ≤ j) := by by_cases h : j < i <;> simp [h] <;> omega
  simp [pLe, vB, PySem.W.dataLt_int, this]
@[simp] theorem pGe_int (i j : Int) : pGe (.int i) (.int j) = some (.val (.bool (decide (j ≤ i)))) := by
  have : (!decide (i < j)) = decide (j ≤ i) := by by_cases h : i < j <;> simp [h] <;> omega
  simp [pGe, vB, PySem.W.dataLt_int, this]
@[simp] theorem pAdd_int (i j : Int) : pAdd (.int i) (.int j) = some (.val (.int (i + j))) := rfl
@[simp] theorem pSub_int (i j : Int) : pSub (.int i) (.int j) = some (.val (.int (i - j))) := rfl
@[simp] theorem pNeg_int (i : Int) : pNeg (.int i) = some (.val (.int (-i))) := rfl
/-! comprehensions whose turns leave all as it was -/
def turnC {E : Type} (tg : Tgt) (cond : M Bool) (body : M (List E)) (d : D) : M (List E) := fun ρ => match assignT tg d ρ with
  | none => .bad
  | some ρ1 => (cond ρ1).bind fun b ρ2 => (if b = true then body ρ2 else .ok [] ρ2).bind fun xs ρ3 => .ok xs (wipeE ρ3 tg.slots)
theorem compItems_step {E : Type} (tg : Tgt) (cond : M Bool) (body : M (List E)) (d : D) (ds : List D) (ρ : Ev) : compItems tg cond body (d :: ds) ρ = (turnC tg cond body d ρ).bind fun xs ρ1 => (compItems tg cond body ds ρ1).bind fun ys ρ2 => .ok (xs ++ ys) ρ2 := by
  simp only [compItems, turnC]
  cases assignT tg d ρ with
  | none => rfl
  | some ρ1 =>
    simp only
    cases cond ρ1 with
    | bad => rfl
    | exc c ρ' => rfl
    | ok b ρ2 =>
      simp only [Res.bind_ok]
      cases (if b = true then body ρ2 else .ok [] ρ2) with
      | bad => rfl
      | exc c ρ' => rfl
      | ok xs ρ3 => rfl
theorem compItems_pure {E : Type} {tg : Tgt} {cond : M Bool} {body : M (List E)} {ρ : Ev} {g : D → List E} : ∀ {items : List D}, (∀ d ∈ items, turnC tg cond body d ρ = .ok (g d) ρ) → compItems tg cond body items ρ = .ok (items.flatMap g) ρ
  | [], _ => rfl
  | d :: ds, h => by
    rw [compItems_step, h d (by simp), Res.bind_ok, compItems_pure fun x hx => h x (by simp [hx])]
    rfl
theorem sListComp_run {vs : List Nat} {dc : DCl} {dcs : List DCl} {f : M Sl} {ρ ρ1 ρ2 : Ev} {items xs : List D} (h1 : dc.it ρ = .ok items ρ1) (h2 : compItems dc.tg dc.cond (compGo (emit1 f) dcs) items (wipeE ρ1 vs) = .ok xs ρ2) (hz : xs.length ≤ sizeLine) :
    sListComp vs dc dcs f ρ = .ok (.own (.lst xs)) (restoreE ρ1 ρ2 vs) := by
  unfold sListComp sComp
  rw [h1]
  simp only [Res.bind_ok]
  rw [h2]
  simp only
  rw [if_pos hz]
  rfl
/-- one clause, an element a turn -/
theorem sListComp_pure {vs : List Nat} {dc : DCl} {f : M Sl} {ρ ρ1 : Ev} {items : List D} {g : D → List D} (h1 : dc.it ρ = .ok items ρ1) (h2 : ∀ d ∈ items, turnC dc.tg dc.cond (emit1 f) d (wipeE ρ1 vs) = .ok (g d) (wipeE ρ1 vs)) (hr : restoreE ρ1 (wipeE ρ1 vs) vs = ρ1) (hz : (items.flatMap g).length ≤ sizeLine) :
    sListComp vs dc [] f ρ = .ok (.own (.lst (items.flatMap g))) ρ1 := by
  have := sListComp_run (f := f) (dcs := []) h1 (compItems_pure (body := compGo (emit1 f) []) h2) hz
  rw [hr] at this
  exact this
@[simp] theorem emit1_ap (f : M Sl) (ρ : Ev) : emit1 f ρ = (f ρ).bind fun r ρ' => .ok [r.frz] ρ' := Eq.trans rfl rfl
@[simp] theorem compGo_nil {E : Type} (emit : M (List E)) : compGo emit [] = emit := Eq.trans rfl rfl
@[simp] theorem anyGo_nil (stop : Bool) (elt : M Sl) : anyGo stop elt [] = eltB stop elt := Eq.trans rfl rfl
@[simp] theorem eltB_ap (stop : Bool) (elt : M Sl) (ρ : Ev) : eltB stop elt ρ = (elt ρ).bind fun r ρ' => match r with
  | .val (.bool b) => .ok (b == stop) ρ'
  | _ => .bad := Eq.trans rfl rfl
def turnA (tg : Tgt) (cond : M Bool) (body : M Bool) (d : D) : M Bool := fun ρ => match assignT tg d ρ with
  | none => .bad
  | some ρ1 => (cond ρ1).bind fun b ρ2 => if b = true then body ρ2 else .ok false ρ2
theorem anyItems_step (tg : Tgt) (cond : M Bool) (body : M Bool) (d : D) (ds : List D) (ρ : Ev) : anyItems tg cond body (d :: ds) ρ = (turnA tg cond body d ρ).bind fun st ρ1 => if st = true then .ok true ρ1 else anyItems tg cond body ds (wipeE ρ1 tg.slots) := by
  simp only [anyItems, turnA]
  cases assignT tg d ρ with
  | none => rfl
  | some ρ1 =>
    simp only
    cases cond ρ1 with
    | bad => rfl
    | exc c ρ' => rfl
    | ok b ρ2 =>
      simp only [Res.bind_ok]
      cases b with
      | true => rfl
      | false => rfl
theorem anyItems_pure {tg : Tgt} {cond : M Bool} {body : M Bool} {ρ : Ev} {P : Ev → Prop} {p : D → Bool} (hρ : P ρ) : ∀ {items : List D}, (∀ d ∈ items, ∃ ρ', turnA tg cond body d ρ = .ok (p d) ρ' ∧ wipeE ρ' tg.slots = ρ ∧ P ρ') → ∃ ρ', anyItems tg cond body items ρ = .ok (items.any p) ρ' ∧ P ρ'
  | [], _ => ⟨ρ, rfl, hρ⟩
  | d :: ds, h => by
    obtain ⟨ρ1, e1, e2, e3⟩ := h d (by simp)
    rw [anyItems_step, e1, Res.bind_ok]
    cases hp : p d with
    | true => exact ⟨ρ1, by simp [hp], e3⟩
    | false =>
      obtain ⟨ρ', e4, e5⟩ := anyItems_pure (items := ds) hρ fun x hx => h x (by simp [hx])
      refine ⟨ρ', ?_, e5⟩
      rw [if_neg (by simp), e2, e4]
      simp [hp]
theorem sAny_pure {isAll : Bool} {vs : List Nat} {dc : DCl} {dcs : List DCl} {f : M Sl} {ρ ρ1 : Ev} {items : List D} {p : D → Bool} (h1 : dc.it ρ = .ok items ρ1) (hr : restoreE ρ1 (wipeE ρ1 vs) vs = ρ1)
    (h2 : ∀ d ∈ items, ∃ ρ', turnA dc.tg dc.cond (anyGo (!isAll) f dcs) d (wipeE ρ1 vs) = .ok (p d) ρ' ∧ wipeE ρ' dc.tg.slots = wipeE ρ1 vs ∧ restoreE ρ1 ρ' vs = ρ1) :
    sAny isAll vs dc dcs f ρ = .ok (.val (.bool (if isAll = true then !(items.any p) else items.any p))) ρ1 := by
  obtain ⟨ρ', e, er⟩ := anyItems_pure (P := fun ρ' => restoreE ρ1 ρ' vs = ρ1) hr h2
  unfold sAny
  rw [h1, Res.bind_ok, e]
  simp only
  rw [er]
/-! loops -/
theorem forItems_nil (t : Tgt) (body : MS) (ρ : Ev) : forItems t body [] ρ = .nx ρ := rfl
theorem forItems_cons (t : Tgt) (body : MS) (d : D) (ds : List D) (ρ : Ev) : forItems t body (d :: ds) ρ = match assignT t d ρ with
    | some ρ1 => (body ρ1).turn (forItems t body ds)
    | none => .bad := rfl
/-- a loop by its invariant -/
theorem forItems_inv {t : Tgt} {body : MS} {I : List D → Ev → Prop} : ∀ {items : List D} {ρ : Ev}, I items ρ → (∀ d ds ρ, I (d :: ds) ρ → ∃ ρ1 ρ2, assignT t d ρ = some ρ1 ∧ body ρ1 = .nx ρ2 ∧ I ds ρ2) → ∃ ρ', forItems t body items ρ = .nx ρ' ∧ I [] ρ'
  | [], ρ, h, _ => ⟨ρ, rfl, h⟩
  | d :: ds, ρ, h, hs => by
    obtain ⟨ρ1, ρ2, e1, e2, e3⟩ := hs d ds ρ h
    obtain ⟨ρ', e4, e5⟩ := forItems_inv e3 hs
    refine ⟨ρ', ?_, e5⟩
    rw [forItems_cons, e1]
    simp only
    rw [e2, Out.turn_nx, e4]
theorem ofBody_rt {k : Nat} {m : MS} {ds : List D} {r : Sl} {ρ : Ev} (h : m (ds.map (fun d => some (.val d)) ++ List.replicate k none) = .rt r ρ) : ofBody k m ds = .ok r := by
  unfold ofBody; rw [h]
@[simp] theorem okEq_int (i : Int) : okEq (.int i) = true := by simp [okEq, PyData.depth]
@[simp] theorem okEq_bool (i : Bool) : okEq (.bool i) = true := by simp [okEq, PyData.depth]
@[simp] theorem okEq_str (i : Str) : okEq (.str i) = true := by simp [okEq, PyData.depth]
@[simp] theorem okEq_none : okEq .none = true := by simp [okEq, PyData.depth]
@[simp] theorem eqv_int (i j : Int) : PyData.eqv (.int i) (.int j) = (i == j) := by simp [PyData.eqv]
@[simp] theorem eqv_bool (i j : Bool) : PyData.eqv (.bool i) (.bool j) = (i == j) := by simp [PyData.eqv]
@[simp] theorem eqv_str (i j : Str) : PyData.eqv (.str i) (.str j) = (i == j) := by simp [PyData.eqv]
@[simp] theorem pEq_int (i j : Int) : pEq (.int i) (.int j) = some (.val (.bool (i == j))) := by simp [pEq, vB]
@[simp] theorem pNe_int (i j : Int) : pNe (.int i) (.int j) = some (.val (.bool (!(i == j)))) := by simp [pNe, vB]
@[simp] theorem pEq_bool (i j : Bool) : pEq (.bool i) (.bool j) = some (.val (.bool (i == j))) := by simp [pEq, vB]
@[simp] theorem pNe_bool (i j : Bool) : pNe (.bool i) (.bool j) = some (.val (.bool (!(i == j)))) := by simp [pNe, vB]
@[simp] theorem truD_bool (b : Bool) : truD (.bool b) = some b := rfl
@[simp] theorem truD_int (i : Int) : truD (.int i) = some (i != 0) := rfl
@[simp] theorem truD_none : truD .none = some false := rfl
@[simp] theorem truD_list (xs : List D) : truD (.list xs) = some !xs.isEmpty := rfl
@[simp] theorem truD_tuple (xs : List D) : truD (.tuple xs) = some !xs.isEmpty := rfl
@[simp] theorem pLen2_list (xs : List D) : pLen2 [.list xs] = some (.val (.int xs.length)) := rfl
@[simp] theorem pLen2_tuple (xs : List D) : pLen2 [.tuple xs] = some (.val (.int xs.length)) := rfl
@[simp] theorem pTuple_list (xs : List D) : pTuple [.list xs] = some (.val (.tuple xs)) := rfl
@[simp] theorem pTuple_tuple (xs : List D) : pTuple [.tuple xs] = some (.val (.tuple xs)) := rfl
@[simp] theorem pListC2_list (xs : List D) : pListC2 [.list xs] = some (.own (.lst xs)) := rfl
@[simp] theorem pListC2_tuple (xs : List D) : pListC2 [.tuple xs] = some (.own (.lst xs)) := rfl
@[simp] theorem pMax_int (i j : Int) : pMax [.int i, .int j] = some (.val (.int (max i j))) := rfl
@[simp] theorem pMin_int (i j : Int) : pMin [.int i, .int j] = some (.val (.int (min i j))) := rfl
@[simp] theorem zipOf_t (xs ys : List D) : zipOf [.tuple xs, .tuple ys] = some (zipD xs ys) := rfl
@[simp] theorem zipOf_l (xs ys : List D) : zipOf [.list xs, .list ys] = some (zipD xs ys) := rfl
@[simp] theorem pIsi_t (d : D) (hp : d.plain = true) : pIsi "tuple" d = some (.val (.bool d.isTuple)) := by simp [pIsi, hp, isiD, vB]
@[simp] theorem pIsi_l (d : D) (hp : d.plain = true) : pIsi "list" d = some (.val (.bool d.isList)) := by simp [pIsi, hp, isiD, vB]
@[simp] theorem pIsi_i (d : D) (hp : d.plain = true) : pIsi "int" d = some (.val (.bool d.isInt)) := by simp [pIsi, hp, isiD, vB]
@[simp] theorem pIsi_b (d : D) (hp : d.plain = true) : pIsi "bool" d = some (.val (.bool d.isBool)) := by simp [pIsi, hp, isiD, vB]
@[simp] theorem pIsi_s (d : D) (hp : d.plain = true) : pIsi "str" d = some (.val (.bool d.isStr)) := by simp [pIsi, hp, isiD, vB]
@[simp] theorem pIx2_t (xs : List D) (i : Int) : pIx2 (.tuple xs) (.int i) = (L2.atI xs i).map .val := rfl
@[simp] theorem pIx2_l (xs : List D) (i : Int) : pIx2 (.list xs) (.int i) = (L2.atI xs i).map .val := rfl
theorem atI_lt {α : Type} {xs : List α} {i : Nat} (h : i < xs.length) : L2.atI xs (i : Int) = some xs[i] := by
  simp [L2.atI, L2.ixN, h]
@[simp] theorem atI_0 {α : Type} (x : α) (xs : List α) : L2.atI (x :: xs) 0 = some x := atI_lt (xs := x :: xs) (i := 0) (by simp)
@[simp] theorem atI_1 {α : Type} (x y : α) (xs : List α) : L2.atI (x :: y :: xs) 1 = some y := atI_lt (xs := x :: y :: xs) (i := 1) (by simp)
@[simp] theorem atI_2 {α : Type} (x y z : α) (xs : List α) : L2.atI (x :: y :: z :: xs) 2 = some z := atI_lt (xs := x :: y :: z :: xs) (i := 2) (by simp)
theorem plainAll_iff {xs : List D} : PyData.plainAll xs = true ↔ ∀ d ∈ xs, d.plain = true := by
  induction xs with
  | nil => simp
  | cons x xs ih => simp [ih]
theorem sizeLine_big {n : Nat} (h : n ≤ 1000000) : n ≤ sizeLine := by rw [sizeLine_eq]; omega
end Sd
set_option Elab.async false
set_option linter.all false
set_option maxRecDepth 100000
set_option maxHeartbeats 4000000
set_option autoImplicit false
/-! Sd: comprehensions and loops over encoded items. -/
namespace Sd
open PySem PySem.Spec PyProof.Rows L2
section
variable {α : Type}
theorem sAll_map {vs : List Nat} {it : M (List D)} {tg : Tgt} {cond : M Bool} {dcs : List DCl} {f : M Sl} {ρ : Ev} (xs : List α) (enc : α → D) (p : α → Bool) (h1 : it ρ = .ok (xs.map enc) ρ) (hr : restoreE ρ (wipeE ρ vs) vs = ρ)
    (h2 : ∀ a ∈ xs, ∃ ρ', turnA tg cond (anyGo false f dcs) (enc a) (wipeE ρ vs) = .ok (!p a) ρ' ∧ (p a = true → wipeE ρ' tg.slots = wipeE ρ vs) ∧ restoreE ρ ρ' vs = ρ) :
    sAny true vs ⟨it, tg, cond⟩ dcs f ρ = .ok (.val (.bool (xs.all p))) ρ := by
  have h : ∀ (xs : List α), (∀ a ∈ xs, ∃ ρ', turnA tg cond (anyGo false f dcs) (enc a) (wipeE ρ vs) = .ok (!p a) ρ' ∧ (p a = true → wipeE ρ' tg.slots = wipeE ρ vs) ∧ restoreE ρ ρ' vs = ρ) → ∃ ρ', anyItems tg cond (anyGo false f dcs) (xs.map enc) (wipeE ρ vs) = .ok (!xs.all p) ρ' ∧ restoreE ρ ρ' vs = ρ := by
    intro xs
    induction xs with
    | nil => exact fun _ => ⟨_, rfl, hr⟩
    | cons a as ih =>
      intro h
      obtain ⟨ρ1, e1, e2, e3⟩ := h a (by simp)
      obtain ⟨ρ2, e4, e5⟩ := ih fun x hx => h x (by simp [hx])
      rw [List.map_cons, anyItems_step, e1, Res.bind_ok]
      cases hp : p a with
      | false => exact ⟨ρ1, by simp [hp], e3⟩
      | true => exact ⟨ρ2, by rw [if_neg (by simp), e2 hp, e4]; simp [hp], e5⟩
  obtain ⟨ρ', e, er⟩ := h xs h2
  unfold sAny
  simp only [Bool.not_true]
  rw [h1, Res.bind_ok, e]
  simp only
  rw [er]
  simp
theorem sAny_map {vs : List Nat} {it : M (List D)} {tg : Tgt} {cond : M Bool} {dcs : List DCl} {f : M Sl} {ρ : Ev} (xs : List α) (enc : α → D) (p : α → Bool) (h1 : it ρ = .ok (xs.map enc) ρ) (hr : restoreE ρ (wipeE ρ vs) vs = ρ)
    (h2 : ∀ a ∈ xs, ∃ ρ', turnA tg cond (anyGo true f dcs) (enc a) (wipeE ρ vs) = .ok (p a) ρ' ∧ (p a = false → wipeE ρ' tg.slots = wipeE ρ vs) ∧ restoreE ρ ρ' vs = ρ) :
    sAny false vs ⟨it, tg, cond⟩ dcs f ρ = .ok (.val (.bool (xs.any p))) ρ := by
  have h : ∀ (xs : List α), (∀ a ∈ xs, ∃ ρ', turnA tg cond (anyGo true f dcs) (enc a) (wipeE ρ vs) = .ok (p a) ρ' ∧ (p a = false → wipeE ρ' tg.slots = wipeE ρ vs) ∧ restoreE ρ ρ' vs = ρ) → ∃ ρ', anyItems tg cond (anyGo true f dcs) (xs.map enc) (wipeE ρ vs) = .ok (xs.any p) ρ' ∧ restoreE ρ ρ' vs = ρ := by
    intro xs
    induction xs with
    | nil => exact fun _ => ⟨_, rfl, hr⟩
    | cons a as ih =>
      intro h
      obtain ⟨ρ1, e1, e2, e3⟩ := h a (by simp)
      obtain ⟨ρ2, e4, e5⟩ := ih fun x hx => h x (by simp [hx])
      rw [List.map_cons, anyItems_step, e1, Res.bind_ok]
      cases hp : p a with
      | true => exact ⟨ρ1, by simp [hp], e3⟩
      | false => exact ⟨ρ2, by rw [if_neg (by simp), e2 hp, e4]; simp [hp], e5⟩
  obtain ⟨ρ', e, er⟩ := h xs h2
  unfold sAny
  simp only [Bool.not_false]
  rw [h1, Res.bind_ok, e]
  simp only
  rw [er]
  simp
theorem compItems_map {E : Type} {tg : Tgt} {cond : M Bool} {body : M (List E)} {ρ : Ev} (enc : α → D) {g : α → List E} : ∀ {items : List α}, (∀ a ∈ items, turnC tg cond body (enc a) ρ = .ok (g a) ρ) → compItems tg cond body (items.map enc) ρ = .ok (items.flatMap g) ρ
  | [], _ => rfl
  | d :: ds, h => by
    rw [List.map_cons, compItems_step, h d (by simp), Res.bind_ok, compItems_map enc fun x hx => h x (by simp [hx])]
    rfl
/-- one clause or many: each turn gives a row -/
theorem sLC_map {vs : List Nat} {it : M (List D)} {tg : Tgt} {cond : M Bool} {dcs : List DCl} {f : M Sl} {ρ : Ev} (xs : List α) (enc : α → D) (g : α → List D) (h1 : it ρ = .ok (xs.map enc) ρ) (hr : restoreE ρ (wipeE ρ vs) vs = ρ)
    (h2 : ∀ a ∈ xs, turnC tg cond (compGo (emit1 f) dcs) (enc a) (wipeE ρ vs) = .ok (g a) (wipeE ρ vs)) (hz : (xs.flatMap g).length ≤ sizeLine) :
    sListComp vs ⟨it, tg, cond⟩ dcs f ρ = .ok (.own (.lst (xs.flatMap g))) ρ := by
  rw [sListComp_run (dc := ⟨it, tg, cond⟩) h1 (compItems_map enc h2) hz, hr]
theorem flatMap_one {β : Type} (xs : List α) (f : α → β) : (xs.flatMap fun a => [f a]) = xs.map f := by
  induction xs with
  | nil => rfl
  | cons x xs ih => rw [List.flatMap_cons, ih]; rfl
theorem flatMap_if {β : Type} (xs : List α) (p : α → Bool) (f : α → β) : (xs.flatMap fun a => if p a = true then [f a] else []) = (xs.filter p).map f := by
  induction xs with
  | nil => rfl
  | cons x xs ih =>
    rw [List.flatMap_cons, ih, List.filter_cons]
    by_cases h : p x = true <;> simp [h]
theorem sLC_one {vs : List Nat} {it : M (List D)} {tg : Tgt} {cond : M Bool} {f : M Sl} {ρ : Ev} (xs : List α) (enc : α → D) (g : α → D) (h1 : it ρ = .ok (xs.map enc) ρ) (hr : restoreE ρ (wipeE ρ vs) vs = ρ)
    (h2 : ∀ a ∈ xs, turnC tg cond (emit1 f) (enc a) (wipeE ρ vs) = .ok [g a] (wipeE ρ vs)) (hz : xs.length ≤ sizeLine) :
    sListComp vs ⟨it, tg, cond⟩ [] f ρ = .ok (.own (.lst (xs.map g))) ρ := by
  rw [sLC_map (dcs := []) (f := f) xs enc (fun a => [g a]) h1 hr h2 (by rw [flatMap_one, List.length_map]; exact hz), flatMap_one]
theorem sLC_if {vs : List Nat} {it : M (List D)} {tg : Tgt} {cond : M Bool} {f : M Sl} {ρ : Ev} (xs : List α) (enc : α → D) (p : α → Bool) (g : α → D) (h1 : it ρ = .ok (xs.map enc) ρ) (hr : restoreE ρ (wipeE ρ vs) vs = ρ)
    (h2 : ∀ a ∈ xs, turnC tg cond (emit1 f) (enc a) (wipeE ρ vs) = .ok (if p a = true then [g a] else []) (wipeE ρ vs)) (hz : xs.length ≤ sizeLine) :
    sListComp vs ⟨it, tg, cond⟩ [] f ρ = .ok (.own (.lst ((xs.filter p).map g))) ρ := by
  have hl : ((xs.filter p).map g).length ≤ sizeLine := by
    rw [List.length_map]
    exact Nat.le_trans (List.length_filter_le _ _) hz
  rw [sLC_map (dcs := []) (f := f) xs enc (fun a => if p a = true then [g a] else []) h1 hr h2 (by rw [flatMap_if]; exact hl), flatMap_if]
/-- a loop over encoded items, by its invariant -/
theorem forItems_map {t : Tgt} {body : MS} (enc : α → D) {I : List α → Ev → Prop} : ∀ {items : List α} {ρ : Ev}, I items ρ → (∀ a as ρ, I (a :: as) ρ → ∃ ρ1 ρ2, assignT t (enc a) ρ = some ρ1 ∧ body ρ1 = .nx ρ2 ∧ I as ρ2) → ∃ ρ', forItems t body (items.map enc) ρ = .nx ρ' ∧ I [] ρ'
  | [], ρ, h, _ => ⟨ρ, rfl, h⟩
  | d :: ds, ρ, h, hs => by
    obtain ⟨ρ1, ρ2, e1, e2, e3⟩ := hs d ds ρ h
    obtain ⟨ρ', e4, e5⟩ := forItems_map enc e3 hs
    refine ⟨ρ', ?_, e5⟩
    rw [List.map_cons, forItems_cons, e1]
    simp only
    rw [e2, Out.turn_nx, e4]
end
theorem ofBody_ret {k : Nat} {f : M Sl} {ds : List D} {r : Sl} (ρ0 : Ev) {ρ : Ev} (h0 : ds.map (fun d => some (.val d)) ++ List.replicate k none = ρ0) (h : f ρ0 = .ok r ρ) : ofBody k (mRet f) ds = .ok r := by
  refine ofBody_rt (ρ := ρ) ?_
  rw [mRet_ap, h0, h]
  rfl
theorem ofBody_ret0 {k : Nat} {f : M Sl} {ds : List D} {r : Sl} (ρ0 : Ev) (h0 : ds.map (fun d => some (.val d)) ++ List.replicate k none = ρ0) (h : f ρ0 = .ok r ρ0) : ofBody k (mRet f) ds = .ok r := ofBody_ret ρ0 h0 h
theorem anyGo_cons (stop : Bool) (elt : M Sl) (cl : DCl) (cls : List DCl) (ρ : Ev) : anyGo stop elt (cl :: cls) ρ = (cl.it ρ).bind fun items ρ1 => anyItems cl.tg cl.cond (anyGo stop elt cls) items ρ1 := rfl
theorem compGo_cons {E : Type} (emit : M (List E)) (cl : DCl) (cls : List DCl) (ρ : Ev) : compGo emit (cl :: cls) ρ = (cl.it ρ).bind fun items ρ1 => compItems cl.tg cl.cond (compGo emit cls) items ρ1 := rfl
theorem depth_mem : ∀ {xs : List D} {n : Nat}, (∀ d ∈ xs, d.depth ≤ n) → PyData.depthAll xs ≤ n + 1
  | [], _, _ => by simp [PyData.depthAll]
  | x :: xs, n, h => by
    have h1 := h x (by simp)
    have h2 := depth_mem (xs := xs) (n := n) fun d hd => h d (by simp [hd])
    simp only [PyData.depthAll]
    omega
theorem sEqNil {f : M Sl} {xs : List D} {ρ ρ' : Ev} (h : f ρ = .ok (.own (.lst xs)) ρ') (hp : okEq (.list xs) = true) : sOp2 pEq (.ex f) (.ex (sLst aN)) ρ = .ok (.val (.bool xs.isEmpty)) ρ' := by
  rw [sOp2_ap, ph1_ex, h, Res.bind_ok, Res.bind_ok, ph1_ex, sLst_ap, aN_ap, Res.bind_ok, if_pos (by rw [List.length_nil]; exact Nat.zero_le _), Res.bind_ok, Res.bind_ok]
  simp only [ph2_ex, Option.bind_some, frz_lst, pEq, hp]
  have e : PyData.eqv (.list xs) (.list []) = xs.isEmpty := by cases xs <;> simp [PyData.eqv, PyData.eqvAll]
  rw [e]
  simp [vB, okEq, PyData.depth, PyData.depthAll, PyData.plain]
theorem sNeNil {f : M Sl} {xs : List D} {ρ ρ' : Ev} (h : f ρ = .ok (.own (.lst xs)) ρ') (hp : okEq (.list xs) = true) : sOp2 pNe (.ex f) (.ex (sLst aN)) ρ = .ok (.val (.bool (!xs.isEmpty))) ρ' := by
  rw [sOp2_ap, ph1_ex, h, Res.bind_ok, Res.bind_ok, ph1_ex, sLst_ap, aN_ap, Res.bind_ok, if_pos (by rw [List.length_nil]; exact Nat.zero_le _), Res.bind_ok, Res.bind_ok]
  simp only [ph2_ex, Option.bind_some, frz_lst, pNe, hp]
  have e : PyData.eqv (.list xs) (.list []) = xs.isEmpty := by cases xs <;> simp [PyData.eqv, PyData.eqvAll]
  rw [e]
  simp [vB, okEq, PyData.depth, PyData.depthAll, PyData.plain]
def eI (i : Int) : D := .int i
def eN (i : Nat) : D := .int (i : Int)
theorem rangeD_0 (n : Nat) : rangeD 0 n = (List.range n).map eN := by
  unfold rangeD
  congr 1
  funext i
  simp [eN]
theorem range1_n (n : Nat) (h : n ≤ 1000000) : range1Of [.int (n : Int)] = some ((List.range n).map eN) := by
  have e : (2 : Int) ^ 62 = 4611686018427387904 := by decide
  have h1 : -(2 ^ 62) ≤ (n : Int) ∧ (n : Int) < 2 ^ 62 := by rw [e]; constructor <;> omega
  unfold range1Of
  simp only
  rw [if_pos h1, Int.toNat_natCast, rangeD_0]
theorem sRange1_n {as : M (List D)} {ρ ρ' : Ev} {n : Nat} (h : as ρ = .ok [.int (n : Int)] ρ') (hn : n ≤ 1000000) : sRange1 as ρ = .ok ((List.range n).map eN) ρ' := by
  unfold sRange1
  rw [h, Res.bind_ok, range1_n n hn]
  exact Res.ofO_some _ _
theorem cutD_to (xs ys : List D) (k : Nat) (h : k = xs.length) : cutD (xs ++ ys) none (some (k : Int)) = xs := by
  subst h
  unfold cutD
  rw [HT.sIx_none, HT.sIx_nat]
  simp
theorem cutD_from (xs ys : List D) (k : Nat) (h : k = xs.length) : cutD (xs ++ ys) (some (k : Int)) none = ys := by
  subst h
  unfold cutD
  rw [HT.sIx_none, HT.sIx_nat]
  simp
theorem zipD_map {α β : Type} (f : α → D) (g : β → D) (xs : List α) (ys : List β) : zipD (xs.map f) (ys.map g) = (xs.zip ys).map fun p => .tuple [f p.1, g p.2] := by
  unfold zipD
  rw [List.zipWith_map, List.zip, List.map_zipWith]
theorem ix_map {α : Type} (enc : α → D) (xs : List α) {i : Nat} (h : i < xs.length) : L2.atI (xs.map enc) (i : Int) = some (enc xs[i]) := by
  rw [atI_lt (by simpa using h)]
  simp
end Sd
set_option Elab.async false
set_option linter.all false
set_option maxRecDepth 100000
set_option maxHeartbeats 4000000
set_option autoImplicit false
namespace Sd.K06
open PySem PySem.Spec PyProof.Rows L2 C8 Sd GenW GxR
def top (i : Nat) : Stmt := PySem.Challenge.pw_slideclear_k06_whole_clear_places_and_wa.main.body.getD i (.Pass ⟨0, 0, 0, 0⟩)
theorem bt_abs : bootBuiltins "abs" = some (.builtin "abs") := by decide +kernel
theorem bt_all : bootBuiltins "all" = some (.builtin "all") := by decide +kernel
theorem bt_any : bootBuiltins "any" = some (.builtin "any") := by decide +kernel
theorem bt_bool : bootBuiltins "bool" = some (.type "bool") := by decide +kernel
theorem bt_dict : bootBuiltins "dict" = some (.type "dict") := by decide +kernel
theorem bt_int : bootBuiltins "int" = some (.type "int") := by decide +kernel
theorem bt_isinstance : bootBuiltins "isinstance" = some (.builtin "isinstance") := by decide +kernel
theorem bt_len : bootBuiltins "len" = some (.builtin "len") := by decide +kernel
theorem bt_list : bootBuiltins "list" = some (.type "list") := by decide +kernel
theorem bt_max : bootBuiltins "max" = some (.builtin "max") := by decide +kernel
theorem bt_min : bootBuiltins "min" = some (.builtin "min") := by decide +kernel
theorem bt_range : bootBuiltins "range" = some (.type "range") := by decide +kernel
theorem bt_reversed : bootBuiltins "reversed" = some (.type "reversed") := by decide +kernel
theorem bt_sorted : bootBuiltins "sorted" = some (.builtin "sorted") := by decide +kernel
theorem bt_str : bootBuiltins "str" = some (.type "str") := by decide +kernel
theorem bt_sum : bootBuiltins "sum" = some (.builtin "sum") := by decide +kernel
theorem bt_tuple : bootBuiltins "tuple" = some (.type "tuple") := by decide +kernel
theorem bt_zip : bootBuiltins "zip" = some (.type "zip") := by decide +kernel
structure Tx (P : Program) (w : World) (K : PySem.W.Frag) (mg : Str → Option Value) (base : Heap) (tabs : List Addr) : Prop where
  f_is_number : ∃ (f : Addr) (fd : FuncData) (cdv : Value), DefC K mg "is_number" (top 1) cdv f fd
  f_is_stretch : ∃ (f : Addr) (fd : FuncData) (c Pt : Addr), DefC K mg "is_stretch" (top 6) (.ref c) f fd ∧ TabB base mg c Pt ∧ Pt ∈ tabs
  f_is_box : ∃ (f : Addr) (fd : FuncData) (c Pt : Addr), DefC K mg "is_box" (top 5) (.ref c) f fd ∧ TabB base mg c Pt ∧ Pt ∈ tabs
  f_is_place : ∃ (f : Addr) (fd : FuncData) (c Pt : Addr), DefC K mg "is_place" (top 7) (.ref c) f fd ∧ TabB base mg c Pt ∧ Pt ∈ tabs
  f_holds : ∃ (f : Addr) (fd : FuncData) (c Pt : Addr), DefC K mg "holds" (top 8) (.ref c) f fd ∧ TabB base mg c Pt ∧ Pt ∈ tabs
  f_is_thing : ∃ (f : Addr) (fd : FuncData) (c Pt : Addr), DefC K mg "is_thing" (top 14) (.ref c) f fd ∧ TabB base mg c Pt ∧ Pt ∈ tabs
  f_dimension : ∃ (f : Addr) (fd : FuncData) (cdv : Value), DefC K mg "dimension" (top 15) cdv f fd
  f_walls_of : ∃ (f : Addr) (fd : FuncData) (cdv : Value), DefC K mg "walls_of" (top 17) cdv f fd
  f_check_pair : ∃ (f : Addr) (fd : FuncData) (cdv : Value), DefC K mg "check_pair" (top 19) cdv f fd
  f_barred_boxes : ∃ (f : Addr) (fd : FuncData) (cdv : Value), DefC K mg "barred_boxes" (top 20) cdv f fd
  f_is_clear : ∃ (f : Addr) (fd : FuncData) (c Pt : Addr), DefC K mg "is_clear" (top 21) (.ref c) f fd ∧ TabB base mg c Pt ∧ Pt ∈ tabs
  f_meets : ∃ (f : Addr) (fd : FuncData) (cdv : Value), DefC K mg "meets" (top 23) cdv f fd
  f_is_shift_clear : ∃ (f : Addr) (fd : FuncData) (c Pt : Addr), DefC K mg "is_shift_clear" (top 22) (.ref c) f fd ∧ TabB base mg c Pt ∧ Pt ∈ tabs
  f_is_way : ∃ (f : Addr) (fd : FuncData) (c Pt : Addr), DefC K mg "is_way" (top 24) (.ref c) f fd ∧ TabB base mg c Pt ∧ Pt ∈ tabs
  f_length_of : ∃ (f : Addr) (fd : FuncData) (cdv : Value), DefC K mg "length_of" (top 25) cdv f fd
  f__law_draws : ∃ (f : Addr) (fd : FuncData) (cdv : Value), DefC K mg "_law_draws" (top 27) cdv f fd
  f__law_take : ∃ (f : Addr) (fd : FuncData) (cdv : Value), DefC K mg "_law_take" (top 28) cdv f fd
  f__law_alike : ∃ (f : Addr) (fd : FuncData) (cdv : Value), DefC K mg "_law_alike" (top 29) cdv f fd
  f__law_says : ∃ (f : Addr) (fd : FuncData) (cdv : Value), DefC K mg "_law_says" (top 30) cdv f fd
  f__law_box : ∃ (f : Addr) (fd : FuncData) (cdv : Value), DefC K mg "_law_box" (top 31) cdv f fd
  f__law_thing : ∃ (f : Addr) (fd : FuncData) (cdv : Value), DefC K mg "_law_thing" (top 32) cdv f fd
  f__law_scene : ∃ (f : Addr) (fd : FuncData) (cdv : Value), DefC K mg "_law_scene" (top 33) cdv f fd
  f__law_clash : ∃ (f : Addr) (fd : FuncData) (cdv : Value), DefC K mg "_law_clash" (top 34) cdv f fd
  f__law_still : ∃ (f : Addr) (fd : FuncData) (cdv : Value), DefC K mg "_law_still" (top 35) cdv f fd
  f__law_barred : ∃ (f : Addr) (fd : FuncData) (cdv : Value), DefC K mg "_law_barred" (top 36) cdv f fd
  f__law_within : ∃ (f : Addr) (fd : FuncData) (cdv : Value), DefC K mg "_law_within" (top 37) cdv f fd
  f__law_clear : ∃ (f : Addr) (fd : FuncData) (cdv : Value), DefC K mg "_law_clear" (top 38) cdv f fd
  f__law_told : ∃ (f : Addr) (fd : FuncData) (cdv : Value), DefC K mg "_law_told" (top 39) cdv f fd
  f__law_stands : ∃ (f : Addr) (fd : FuncData) (cdv : Value), DefC K mg "_law_stands" (top 40) cdv f fd
  f__law_shift : ∃ (f : Addr) (fd : FuncData) (cdv : Value), DefC K mg "_law_shift" (top 41) cdv f fd
  f__law_way : ∃ (f : Addr) (fd : FuncData) (cdv : Value), DefC K mg "_law_way" (top 42) cdv f fd
  b_abs : mg "abs" = none
  b_all : mg "all" = none
  b_any : mg "any" = none
  b_bool : mg "bool" = none
  b_dict : mg "dict" = none
  b_int : mg "int" = none
  b_isinstance : mg "isinstance" = none
  b_len : mg "len" = none
  b_list : mg "list" = none
  b_max : mg "max" = none
  b_min : mg "min" = none
  b_range : mg "range" = none
  b_reversed : mg "reversed" = none
  b_sorted : mg "sorted" = none
  b_str : mg "str" = none
  b_sum : mg "sum" = none
  b_tuple : mg "tuple" = none
  b_zip : mg "zip" = none
  e_Malformed : ∃ C : Addr, ExcF K mg "Malformed" C
  e_SlideError : ∃ C : Addr, ExcF K mg "SlideError" C
  c_Malformed : ∀ C : Addr, mg "Malformed" = some (.ref C) → L2.ExcC K C
  m_Malformed_SlideError : ∀ C D : Addr, mg "Malformed" = some (.ref C) → mg "SlideError" = some (.ref D) → PySem.W.exmOne K (.ref C) (.ref D) = some true
  i_Malformed_Malformed : ∀ C D : Addr, mg "Malformed" = some (.ref C) → mg "Malformed" = some (.ref D) → PySem.W.kitOne K (.ref C) (.ref D) = some true
  k_MOST_BOXES : ∃ t : Tok, mg "MOST_BOXES" = some (.int 8 t)
  k_MOST_CORNER : ∃ t : Tok, mg "MOST_CORNER" = some (.int 1000 t)
  k_MOST_PLACE : ∃ t : Tok, mg "MOST_PLACE" = some (.int 4000 t)
section
variable {P : Program} {w : World} {K : PySem.W.Frag} {mg : Str → Option Value} {base : Heap} {tabs : List Addr}
def N_is_number : List Str := ["value", "least", "most"]
noncomputable def m_is_number : MS := (mRet (sAnd (sOp1 (pIsi "int") (.nm 0)) (sAnd (sNot (sOp1 (pIsi "bool") (.nm 0))) (sCh pLe pLe (.nm 1) (.nm 0) (.nm 2)))))
noncomputable def F_is_number : Fn := ofBody 0 m_is_number
theorem S_is_number : FnScope N_is_number ["value", "least", "most"] (fnScope (top 1)) := C8.fnScope_by (by decide +kernel)
theorem ok_is_number (x : Tx P w K mg base tabs) : Cal P w K mg base 1 "is_number" (dSp ⟨P, w, K⟩ tabs 3 F_is_number) [] := by
  obtain ⟨f, fd, cdv, D⟩ := x.f_is_number
  refine cal_fn (N := N_is_number) (k := 0) D (fun _ _ _ _ _ _ us hl => match us, hl with | [_, _, _], _ => rfl) S_is_number rfl fun A outer s H E hr => ?_
  refine pss_1D ?_
  exact ps_retD (pe_andD (pe_isiD (by first | rfl | decide) x.b_isinstance (by first | rfl | decide) x.b_int bt_int rfl (pv 0)) (pe_andD (pe_notD (pe_isiD (by first | rfl | decide) x.b_isinstance (by first | rfl | decide) x.b_bool bt_bool rfl (pv 0))) (pe_one (pe_chD (op_leD (Room.units hr)) (op_leD (Room.units hr)) (by with_unfolding_all rfl) (pv 1) (pv 0) (pv 2)))))
def N_is_stretch : List Str := ["value", "one"]
noncomputable def m_is_stretch : MS := (mSeq (mIf (bOr (bNot (bTru (.ex (sOp1 (pIsi "tuple") (.nm 0))))) (bVal (sOp2 pNe (.ex (sN pLen2 [(.nm 0)])) (.ex (sC (.int 2)))))) (mRet (sC (.bool false))) mNext) (mRet (sAnd (sAny true [1] ⟨(sIt (sVar 0)), (.nm 1), bYes⟩ [] (sCall F_is_number (aC (sVar 1) (aC (sOp1 pNeg (.ex (sC (.int 1000)))) (aC (sC (.int 1000)) aN))))) (sOp2 pLt (.ex (sOp2 pIx2 (.nm 0) (.ex (sC (.int 0))))) (.ex (sOp2 pIx2 (.nm 0) (.ex (sC (.int 1)))))))))
noncomputable def F_is_stretch : Fn := ofBody 1 m_is_stretch
theorem S_is_stretch : FnScope N_is_stretch ["value"] (fnScope (top 6)) := C8.fnScope_by (by decide +kernel)
theorem ok_is_stretch (x : Tx P w K mg base tabs) : Cal P w K mg base 5 "is_stretch" (dSp ⟨P, w, K⟩ tabs 1 F_is_stretch) [] := by
  obtain ⟨f, fd, c, Pt, D, TB, hP⟩ := x.f_is_stretch
  obtain ⟨_, x_MOST_CORNER⟩ := x.k_MOST_CORNER
  refine cal_fn (N := N_is_stretch) (k := 4) D (fun _ _ _ _ _ _ us hl => match us, hl with | [_], _ => rfl) S_is_stretch rfl fun A outer s H E hr => ?_
  refine pss_cD ?_ ?_
  · refine ps_ifD (PW.pt (pw_orD (pt_notD (pt_truD (pe_isiD (by first | rfl | decide) x.b_isinstance (by first | rfl | decide) x.b_tuple bt_tuple rfl (pv 0)))) (pw_or1D (pt_cmpD (op_neDD (Room.units hr)) (nomark _) (pe_bD cr_len2 bt_len (by first | rfl | decide) x.b_len (POs.cons rfl (pv 0) POs.nil) rfl) pe_iD)))) ?_ ?_
    · refine pss_1D ?_
      exact ps_retD pe_bD'
    · exact pss_nD
  refine pss_1D ?_
  exact ps_retD (pe_andD (pe_allN (own := [("one", 1)]) (GcOk.mk rfl S_is_stretch.nd ⟨_, hr⟩ (pi_D (pe_varD (pv 0))) (gblk_by (by kernel_rfl)) (fun _ _ _ _ _ _ _ => ⟨rfl, (pg_nm S_is_stretch.nd rfl (by first | exact Or.inl rfl | exact Or.inr rfl) (by first | exact Or.inl rfl | exact Or.inr rfl) hL0n), pts_nD⟩) (fun _ _ _ _ _ _ _ => ClIns.nil) (fun _ _ _ _ _ _ _ => (pe_fnD (ok_is_number x) (room_g hr) (by decide) (by first | rfl | decide) (pa_cD (pe_varD (pv 1)) (pa_cD (pe_unD un_negD (pe_kI x_MOST_CORNER (by first | rfl | decide))) (pa_cD (pe_kI x_MOST_CORNER (by first | rfl | decide)) pa_nD rfl) rfl) rfl) rfl (len_C (len_C (len_C len_N))) rfl)) (fun _ => rfl) (show List.Nodup [1] from by decide) (show ∀ i ∈ ([1] : List Nat), i ∈ ([1] : List Nat) from by decide) hL0m ⟨_, _, TB, rfl, hP⟩) (by first | rfl | decide) x.b_all) (pe_one (pe_cmpD (op_ltD (Room.units hr)) (nomark _) (pe_ixD (ix_D2 (Room.units hr)) (by intro _ _; rfl) (pv 0) pe_iD) (pe_ixD (ix_D2 (Room.units hr)) (by intro _ _; rfl) (pv 0) pe_iD))))
def N_is_box : List Str := ["value", "one"]
noncomputable def m_is_box : MS := (mSeq (mIf (bOr (bNot (bTru (.ex (sOp1 (pIsi "tuple") (.nm 0))))) (bVal (sOp2 pNotIn2 (.ex (sN pLen2 [(.nm 0)])) (.ex (sTup (aC (sC (.int 2)) (aC (sC (.int 3)) aN))))))) (mRet (sC (.bool false))) mNext) (mRet (sAny true [1] ⟨(sIt (sVar 0)), (.nm 1), bYes⟩ [] (sCall F_is_stretch (aC (sVar 1) aN)))))
noncomputable def F_is_box : Fn := ofBody 1 m_is_box
theorem S_is_box : FnScope N_is_box ["value"] (fnScope (top 5)) := C8.fnScope_by (by decide +kernel)
theorem ok_is_box (x : Tx P w K mg base tabs) : Cal P w K mg base 9 "is_box" (dSp ⟨P, w, K⟩ tabs 1 F_is_box) [] := by
  obtain ⟨f, fd, c, Pt, D, TB, hP⟩ := x.f_is_box
  refine cal_fn (N := N_is_box) (k := 8) D (fun _ _ _ _ _ _ us hl => match us, hl with | [_], _ => rfl) S_is_box rfl fun A outer s H E hr => ?_
  refine pss_cD ?_ ?_
  · refine ps_ifD (PW.pt (pw_orD (pt_notD (pt_truD (pe_isiD (by first | rfl | decide) x.b_isinstance (by first | rfl | decide) x.b_tuple bt_tuple rfl (pv 0)))) (pw_or1D (pt_cmpD (op_notIn2 (Room.units hr)) (by with_unfolding_all rfl) (pe_bD cr_len2 bt_len (by first | rfl | decide) x.b_len (POs.cons rfl (pv 0) POs.nil) rfl) (pe_tupD (pa_cD pe_iD (pa_cD pe_iD pa_nD rfl) rfl)))))) ?_ ?_
    · refine pss_1D ?_
      exact ps_retD pe_bD'
    · exact pss_nD
  refine pss_1D ?_
  exact ps_retD (pe_allN (own := [("one", 1)]) (GcOk.mk rfl S_is_box.nd ⟨_, hr⟩ (pi_D (pe_varD (pv 0))) (gblk_by (by kernel_rfl)) (fun _ _ _ _ _ _ _ => ⟨rfl, (pg_nm S_is_box.nd rfl (by first | exact Or.inl rfl | exact Or.inr rfl) (by first | exact Or.inl rfl | exact Or.inr rfl) hL0n), pts_nD⟩) (fun _ _ _ _ _ _ _ => ClIns.nil) (fun _ _ _ _ _ _ _ => (pe_fnD (ok_is_stretch x) (room_g hr) (by decide) (by first | rfl | decide) (pa_cD (pe_varD (pv 1)) pa_nD rfl) rfl (len_C len_N) rfl)) (fun _ => rfl) (show List.Nodup [1] from by decide) (show ∀ i ∈ ([1] : List Nat), i ∈ ([1] : List Nat) from by decide) hL0m ⟨_, _, TB, rfl, hP⟩) (by first | rfl | decide) x.b_all)
def N_is_place : List Str := ["value", "dimension", "one"]
noncomputable def m_is_place : MS := (mSeq (mIf (bOr (bNot (bTru (.ex (sOp1 (pIsi "tuple") (.nm 0))))) (bVal (sOp2 pNe (.ex (sN pLen2 [(.nm 0)])) (.nm 1)))) (mRet (sC (.bool false))) mNext) (mRet (sAny true [2] ⟨(sIt (sVar 0)), (.nm 2), bYes⟩ [] (sCall F_is_number (aC (sVar 2) (aC (sOp1 pNeg (.ex (sC (.int 4000)))) (aC (sC (.int 4000)) aN)))))))
noncomputable def F_is_place : Fn := ofBody 1 m_is_place
theorem S_is_place : FnScope N_is_place ["value", "dimension"] (fnScope (top 7)) := C8.fnScope_by (by decide +kernel)
theorem ok_is_place (x : Tx P w K mg base tabs) : Cal P w K mg base 5 "is_place" (dSp ⟨P, w, K⟩ tabs 2 F_is_place) [] := by
  obtain ⟨f, fd, c, Pt, D, TB, hP⟩ := x.f_is_place
  obtain ⟨_, x_MOST_PLACE⟩ := x.k_MOST_PLACE
  refine cal_fn (N := N_is_place) (k := 4) D (fun _ _ _ _ _ _ us hl => match us, hl with | [_, _], _ => rfl) S_is_place rfl fun A outer s H E hr => ?_
  refine pss_cD ?_ ?_
  · refine ps_ifD (PW.pt (pw_orD (pt_notD (pt_truD (pe_isiD (by first | rfl | decide) x.b_isinstance (by first | rfl | decide) x.b_tuple bt_tuple rfl (pv 0)))) (pw_or1D (pt_cmpD (op_neDD (Room.units hr)) (nomark _) (pe_bD cr_len2 bt_len (by first | rfl | decide) x.b_len (POs.cons rfl (pv 0) POs.nil) rfl) (pv 1))))) ?_ ?_
    · refine pss_1D ?_
      exact ps_retD pe_bD'
    · exact pss_nD
  refine pss_1D ?_
  exact ps_retD (pe_allN (own := [("one", 2)]) (GcOk.mk rfl S_is_place.nd ⟨_, hr⟩ (pi_D (pe_varD (pv 0))) (gblk_by (by kernel_rfl)) (fun _ _ _ _ _ _ _ => ⟨rfl, (pg_nm S_is_place.nd rfl (by first | exact Or.inl rfl | exact Or.inr rfl) (by first | exact Or.inl rfl | exact Or.inr rfl) hL0n), pts_nD⟩) (fun _ _ _ _ _ _ _ => ClIns.nil) (fun _ _ _ _ _ _ _ => (pe_fnD (ok_is_number x) (room_g hr) (by decide) (by first | rfl | decide) (pa_cD (pe_varD (pv 2)) (pa_cD (pe_unD un_negD (pe_kI x_MOST_PLACE (by first | rfl | decide))) (pa_cD (pe_kI x_MOST_PLACE (by first | rfl | decide)) pa_nD rfl) rfl) rfl) rfl (len_C (len_C (len_C len_N))) rfl)) (fun _ => rfl) (show List.Nodup [2] from by decide) (show ∀ i ∈ ([2] : List Nat), i ∈ ([2] : List Nat) from by decide) hL0m ⟨_, _, TB, rfl, hP⟩) (by first | rfl | decide) x.b_all)
def N_holds : List Str := ["box", "place", "low", "high", "step"]
noncomputable def m_holds : MS := (mRet (sAny true [2, 3, 4] ⟨(sZip (aC (sVar 0) (aC (sVar 1) aN))), (.tup [(.tup [(.nm 2), (.nm 3)]), (.nm 4)]), bYes⟩ [] (sCh pLt pLt (.nm 2) (.nm 4) (.nm 3))))
noncomputable def F_holds : Fn := ofBody 3 m_holds
theorem S_holds : FnScope N_holds ["box", "place"] (fnScope (top 8)) := C8.fnScope_by (by decide +kernel)
theorem ok_holds (x : Tx P w K mg base tabs) : Cal P w K mg base 4 "holds" (dSp ⟨P, w, K⟩ tabs 2 F_holds) [] := by
  obtain ⟨f, fd, c, Pt, D, TB, hP⟩ := x.f_holds
  refine cal_fn (N := N_holds) (k := 3) D (fun _ _ _ _ _ _ us hl => match us, hl with | [_, _], _ => rfl) S_holds rfl fun A outer s H E hr => ?_
  refine pss_1D ?_
  exact ps_retD (pe_allN (own := [("low", 2), ("high", 3), ("step", 4)]) (GcOk.mk rfl S_holds.nd ⟨_, hr⟩ (pi_zipD (by first | rfl | decide) x.b_zip (pa_cD (pe_varD (pv 0)) (pa_cD (pe_varD (pv 1)) pa_nD rfl) rfl) rfl rfl) (gblk_by (by kernel_rfl)) (fun _ _ _ _ _ _ _ => ⟨rfl, (pg_tp rfl rfl (pgs_c rfl (pg_tp rfl rfl (pgs_c rfl (pg_nm S_holds.nd rfl (by first | exact Or.inl rfl | exact Or.inr rfl) (by first | exact Or.inl rfl | exact Or.inr rfl) hL0n) (pgs_c rfl (pg_nm S_holds.nd rfl (by first | exact Or.inl rfl | exact Or.inr rfl) (by first | exact Or.inl rfl | exact Or.inr rfl) hL0n) pgs_n)) rfl) (pgs_c rfl (pg_nm S_holds.nd rfl (by first | exact Or.inl rfl | exact Or.inr rfl) (by first | exact Or.inl rfl | exact Or.inr rfl) hL0n) pgs_n)) rfl), pts_nD⟩) (fun _ _ _ _ _ _ _ => ClIns.nil) (fun _ _ _ _ _ _ _ => (pe_chD (op_ltD (Room.units (room_g hr))) (op_ltD (Room.units (room_g hr))) (by with_unfolding_all rfl) (pv 2) (pv 4) (pv 3))) (fun _ => rfl) (show List.Nodup [2, 3, 4] from by decide) (show ∀ i ∈ ([2, 3, 4] : List Nat), i ∈ ([2, 3, 4] : List Nat) from by decide) hL0m ⟨_, _, TB, rfl, hP⟩) (by first | rfl | decide) x.b_all)
def N_is_thing : List Str := ["value", "one", "other"]
noncomputable def m_is_thing : MS := (mSeq (mIf (bOr (bNot (bTru (.ex (sOp1 (pIsi "tuple") (.nm 0))))) (bOr (bNot (bVal (sCh pLe pLe (.ex (sC (.int 1))) (.ex (sN pLen2 [(.nm 0)])) (.ex (sC (.int 8)))))) (bNot (bTru (.ex (sAny true [1] ⟨(sIt (sVar 0)), (.nm 1), bYes⟩ [] (sCall F_is_box (aC (sVar 1) aN)))))))) (mRet (sC (.bool false))) mNext) (mSeq (mIf (bNot (bTru (.ex (sAny true [1] ⟨(sIt (sVar 0)), (.nm 1), bYes⟩ [] (sOp2 pEq (.ex (sN pLen2 [(.nm 1)])) (.ex (sN pLen2 [(.ex (sOp2 pIx2 (.nm 0) (.ex (sC (.int 0)))))]))))))) (mRet (sC (.bool false))) mNext) (mRet (sAny true [1, 2] ⟨(sZip (aC (sVar 0) (aC (sSl (.nm 0) (.ex (sC (.int 1))) .no) aN))), (.tup [(.nm 1), (.nm 2)]), bYes⟩ [] (sOp2 pLt (.nm 1) (.nm 2))))))
noncomputable def F_is_thing : Fn := ofBody 2 m_is_thing
theorem S_is_thing : FnScope N_is_thing ["value"] (fnScope (top 14)) := C8.fnScope_by (by decide +kernel)
theorem ok_is_thing (x : Tx P w K mg base tabs) : Cal P w K mg base 13 "is_thing" (dSp ⟨P, w, K⟩ tabs 1 F_is_thing) [] := by
  obtain ⟨f, fd, c, Pt, D, TB, hP⟩ := x.f_is_thing
  obtain ⟨_, x_MOST_BOXES⟩ := x.k_MOST_BOXES
  refine cal_fn (N := N_is_thing) (k := 12) D (fun _ _ _ _ _ _ us hl => match us, hl with | [_], _ => rfl) S_is_thing rfl fun A outer s H E hr => ?_
  refine pss_cD ?_ ?_
  · refine ps_ifD (PW.pt (pw_orD (pt_notD (pt_truD (pe_isiD (by first | rfl | decide) x.b_isinstance (by first | rfl | decide) x.b_tuple bt_tuple rfl (pv 0)))) (pw_orD (pt_notD (pt_chD (op_leD (Room.units hr)) (op_leD (Room.units hr)) (by with_unfolding_all rfl) pe_iD (pe_bD cr_len2 bt_len (by first | rfl | decide) x.b_len (POs.cons rfl (pv 0) POs.nil) rfl) (pe_kI x_MOST_BOXES (by first | rfl | decide)))) (pw_or1D (pt_notD (pt_truD (pe_allN (own := [("one", 1)]) (GcOk.mk rfl S_is_thing.nd ⟨_, hr⟩ (pi_D (pe_varD (pv 0))) (gblk_by (by kernel_rfl)) (fun _ _ _ _ _ _ _ => ⟨rfl, (pg_nm S_is_thing.nd rfl (by first | exact Or.inl rfl | exact Or.inr rfl) (by first | exact Or.inl rfl | exact Or.inr rfl) hL0n), pts_nD⟩) (fun _ _ _ _ _ _ _ => ClIns.nil) (fun _ _ _ _ _ _ _ => (pe_fnD (ok_is_box x) (room_g hr) (by decide) (by first | rfl | decide) (pa_cD (pe_varD (pv 1)) pa_nD rfl) rfl (len_C len_N) rfl)) (fun _ => rfl) (show List.Nodup [1] from by decide) (show ∀ i ∈ ([1] : List Nat), i ∈ ([1] : List Nat) from by decide) hL0m ⟨_, _, TB, rfl, hP⟩) (by first | rfl | decide) x.b_all))))))) ?_ ?_
    · refine pss_1D ?_
      exact ps_retD pe_bD'
    · exact pss_nD
  refine pss_cD ?_ ?_
  · refine ps_ifD (pt_notD (pt_truD (pe_allN (own := [("one", 1)]) (GcOk.mk rfl S_is_thing.nd ⟨_, hr⟩ (pi_D (pe_varD (pv 0))) (gblk_by (by kernel_rfl)) (fun _ _ _ _ _ _ _ => ⟨rfl, (pg_nm S_is_thing.nd rfl (by first | exact Or.inl rfl | exact Or.inr rfl) (by first | exact Or.inl rfl | exact Or.inr rfl) hL0n), pts_nD⟩) (fun _ _ _ _ _ _ _ => ClIns.nil) (fun _ _ _ _ _ _ _ => (pe_cmpD (op_eqDD (Room.units (room_g hr))) (nomark _) (pe_bD cr_len2 bt_len (by first | rfl | decide) x.b_len (POs.cons rfl (pv 1) POs.nil) rfl) (pe_bD cr_len2 bt_len (by first | rfl | decide) x.b_len (POs.cons rfl (pe_ixD (ix_D2 (Room.units (room_g hr))) (by intro _ _; rfl) (pv 0) pe_iD) POs.nil) rfl))) (fun _ => rfl) (show List.Nodup [1] from by decide) (show ∀ i ∈ ([1] : List Nat), i ∈ ([1] : List Nat) from by decide) hL0m ⟨_, _, TB, rfl, hP⟩) (by first | rfl | decide) x.b_all))) ?_ ?_
    · refine pss_1D ?_
      exact ps_retD pe_bD'
    · exact pss_nD
  refine pss_1D ?_
  exact ps_retD (pe_allN (own := [("one", 1), ("other", 2)]) (GcOk.mk rfl S_is_thing.nd ⟨_, hr⟩ (pi_zipD (by first | rfl | decide) x.b_zip (pa_cD (pe_varD (pv 0)) (pa_cD (pe_slD (pv 0) ⟨_, rfl, pe_iD⟩ rfl) pa_nD rfl) rfl) rfl rfl) (gblk_by (by kernel_rfl)) (fun _ _ _ _ _ _ _ => ⟨rfl, (pg_tp rfl rfl (pgs_c rfl (pg_nm S_is_thing.nd rfl (by first | exact Or.inl rfl | exact Or.inr rfl) (by first | exact Or.inl rfl | exact Or.inr rfl) hL0n) (pgs_c rfl (pg_nm S_is_thing.nd rfl (by first | exact Or.inl rfl | exact Or.inr rfl) (by first | exact Or.inl rfl | exact Or.inr rfl) hL0n) pgs_n)) rfl), pts_nD⟩) (fun _ _ _ _ _ _ _ => ClIns.nil) (fun _ _ _ _ _ _ _ => (pe_cmpD (op_ltD (Room.units (room_g hr))) (nomark _) (pv 1) (pv 2))) (fun _ => rfl) (show List.Nodup [1, 2] from by decide) (show ∀ i ∈ ([1, 2] : List Nat), i ∈ ([1, 2] : List Nat) from by decide) hL0m ⟨_, _, TB, rfl, hP⟩) (by first | rfl | decide) x.b_all)
def N_dimension : List Str := ["thing"]
noncomputable def m_dimension : MS := (mRet (sN pLen2 [(.ex (sOp2 pIx2 (.nm 0) (.ex (sC (.int 0)))))]))
noncomputable def F_dimension : Fn := ofBody 0 m_dimension
theorem S_dimension : FnScope N_dimension ["thing"] (fnScope (top 15)) := C8.fnScope_by (by decide +kernel)
theorem ok_dimension (x : Tx P w K mg base tabs) : Cal P w K mg base 1 "dimension" (dSp ⟨P, w, K⟩ tabs 1 F_dimension) [] := by
  obtain ⟨f, fd, cdv, D⟩ := x.f_dimension
  refine cal_fn (N := N_dimension) (k := 0) D (fun _ _ _ _ _ _ us hl => match us, hl with | [_], _ => rfl) S_dimension rfl fun A outer s H E hr => ?_
  refine pss_1D ?_
  exact ps_retD (pe_bD cr_len2 bt_len (by first | rfl | decide) x.b_len (POs.cons rfl (pe_ixD (ix_D2 (Room.units hr)) (by intro _ _; rfl) (pv 0) pe_iD) POs.nil) rfl)
def N_walls_of : List Str := ["scene", "_", "thing", "box"]
noncomputable def m_walls_of : MS := (mRet (sN pTuple [(.ex (sListComp [1, 2, 3] ⟨(sIt (sOp2 pIx2 (.nm 0) (.ex (sC (.int 1))))), (.tup [(.nm 1), (.nm 2)]), bYes⟩ [⟨(sIt (sVar 2)), (.nm 3), bYes⟩] (sVar 3)))]))
noncomputable def F_walls_of : Fn := ofBody 3 m_walls_of
theorem S_walls_of : FnScope N_walls_of ["scene"] (fnScope (top 17)) := C8.fnScope_by (by decide +kernel)
theorem ok_walls_of (x : Tx P w K mg base tabs) : Cal P w K mg base 1 "walls_of" (dSp ⟨P, w, K⟩ tabs 1 F_walls_of) [] := by
  obtain ⟨f, fd, cdv, D⟩ := x.f_walls_of
  refine cal_fn (N := N_walls_of) (k := 0) D (fun _ _ _ _ _ _ us hl => match us, hl with | [_], _ => rfl) S_walls_of rfl fun A outer s H E hr => ?_
  refine pss_1D ?_
  exact ps_retD (pe_tD cr_tuple bt_tuple (by first | rfl | decide) x.b_tuple (POs.cons rfl (pe_lcN (own := [("_", 1), ("thing", 2), ("box", 3)]) (LcOk.mk rfl S_walls_of.nd (pi_D (pe_ixD (ix_D2 (Room.units hr)) (by intro _ _; rfl) (pv 0) pe_iD)) (blk_by (by kernel_rfl)) (fun _ _ _ _ _ => ⟨rfl, (pg_tp rfl rfl (pgs_c rfl (pg_nm S_walls_of.nd rfl (by first | exact Or.inl rfl | exact Or.inr rfl) (by first | exact Or.inl rfl | exact Or.inr rfl) hL0n) (pgs_c rfl (pg_nm S_walls_of.nd rfl (by first | exact Or.inl rfl | exact Or.inr rfl) (by first | exact Or.inl rfl | exact Or.inr rfl) hL0n) pgs_n)) rfl), pts_nD⟩) (fun _ _ _ _ _ => (ClIns.cons ⟨⟨rfl, (pg_nm S_walls_of.nd rfl (by first | exact Or.inl rfl | exact Or.inr rfl) (by first | exact Or.inl rfl | exact Or.inr rfl) hL0n), pts_nD⟩, (pi_D (pe_varD (pv 2))), fun _ => rfl⟩ ClIns.nil)) (fun _ _ _ _ _ => (pe_varD (pv 3))) (fun _ => rfl) (show List.Nodup [1, 2, 3] from by decide) (show ∀ i ∈ ([1, 2, 3] : List Nat), i ∈ ([1, 2, 3] : List Nat) from by decide) hL0m)) POs.nil) rfl)
def N_check_pair : List Str := ["scene", "thing"]
noncomputable def m_check_pair : MS := (mIf (bOr (bNot (bTru (.ex (sCall F_is_thing (aC (sVar 1) aN))))) (bVal (sOp2 pNe (.ex (sCall F_dimension (aC (sVar 1) aN))) (.ex (sOp2 pIx2 (.nm 0) (.ex (sC (.int 0)))))))) (mRaise "Malformed") mNext)
noncomputable def F_check_pair : Fn := ofBody 0 m_check_pair
theorem S_check_pair : FnScope N_check_pair ["scene", "thing"] (fnScope (top 19)) := C8.fnScope_by (by decide +kernel)
theorem ok_check_pair (x : Tx P w K mg base tabs) : CalX P w K mg base 14 "check_pair" (dSpX ⟨P, w, K⟩ mg tabs 2 F_check_pair) := by
  obtain ⟨f, fd, cdv, D⟩ := x.f_check_pair
  obtain ⟨_, e_Malformed⟩ := x.e_Malformed
  refine cal_fnX (N := N_check_pair) (k := 13) D (fun _ _ _ _ _ _ us hl => match us, hl with | [_, _], _ => rfl) S_check_pair rfl fun A outer s H E hr tk => ?_
  refine pss_1D ?_
  refine ps_ifD (PW.pt (pw_orD (pt_notD (pt_truD (pe_fnD (ok_is_thing x) hr (by decide) (by first | rfl | decide) (pa_cD (pe_varD (pv 1)) pa_nD rfl) rfl (len_C len_N) rfl))) (pw_or1D (pt_cmpD (op_neDD (Room.units hr)) (nomark _) (pe_fnD (ok_dimension x) hr (by decide) (by first | rfl | decide) (pa_cD (pe_varD (pv 1)) pa_nD rfl) rfl (len_C len_N) rfl) (pe_ixD (ix_D2 (Room.units hr)) (by intro _ _; rfl) (pv 0) pe_iD))))) ?_ ?_
  · refine pss_1D ?_
    exact ps_raiseD rfl tk e_Malformed (by first | rfl | decide)
  · exact pss_nD
def N_barred_boxes : List Str := ["scene", "thing", "found", "wall", "box", "low", "high", "there"]
noncomputable def m_barred_boxes : MS := (mSeq (mDrop (sCallX F_check_pair (aC (sVar 0) (aC (sVar 1) aN)))) (mSeq (mSet 2 (sLst aN)) (mSeq (mFor (sIt (sCall F_walls_of (aC (sVar 0) aN))) (.nm 3) (mFor (sIt (sVar 1)) (.nm 4) (mDrop (sLM opAppend 2 (aC (sN pTuple [(.ex (sListComp [5, 6, 7] ⟨(sZip (aC (sVar 3) (aC (sVar 4) aN))), (.tup [(.tup [(.nm 5), (.nm 6)]), (.nm 7)]), bYes⟩ [] (sTup (aC (sOp2 pSub (.nm 5) (.ex (sOp2 pIx2 (.nm 7) (.ex (sC (.int 1)))))) (aC (sOp2 pSub (.nm 6) (.ex (sOp2 pIx2 (.nm 7) (.ex (sC (.int 0)))))) aN)))))]) aN))))) (mRet (sN pTuple [(.nm 2)])))))
noncomputable def F_barred_boxes : Fn := ofBody 6 m_barred_boxes
theorem S_barred_boxes : FnScope N_barred_boxes ["scene", "thing"] (fnScope (top 20)) := C8.fnScope_by (by decide +kernel)
theorem ok_barred_boxes (x : Tx P w K mg base tabs) : CalX P w K mg base 15 "barred_boxes" (dSpX ⟨P, w, K⟩ mg tabs 2 F_barred_boxes) := by
  obtain ⟨f, fd, cdv, D⟩ := x.f_barred_boxes
  refine cal_fnX (N := N_barred_boxes) (k := 14) D (fun _ _ _ _ _ _ us hl => match us, hl with | [_, _], _ => rfl) S_barred_boxes rfl fun A outer s H E hr tk => ?_
  refine pss_cD ?_ ?_
  · exact ps_dropD (pe_fnX (ok_check_pair x) hr (by decide) tk (by first | rfl | decide) (pa_cD (pe_varD (pv 0)) (pa_cD (pe_varD (pv 1)) pa_nD rfl) rfl) rfl (len_C (len_C len_N)) rfl)
  refine pss_cD ?_ ?_
  · exact ps_setD S_barred_boxes.nd rfl (by first | exact Or.inl rfl | exact Or.inr rfl) hL0n (pe_lstD pa_nD) rfl (by first | exact Or.inl rfl | exact Or.inr rfl)
  refine pss_cD ?_ ?_
  · refine ps_forD (L2.passes_of rfl) rfl (pi_D (pe_fnD (ok_walls_of x) hr (by decide) (by first | rfl | decide) (pa_cD (pe_varD (pv 0)) pa_nD rfl) rfl (len_C len_N) rfl)) (pg_nm S_barred_boxes.nd rfl (by first | exact Or.inl rfl | exact Or.inr rfl) (by first | exact Or.inl rfl | exact Or.inr rfl) hL0n) ?_
    refine pss_1D ?_
    refine ps_forD (L2.passes_of rfl) rfl (pi_D (pe_varD (pv 1))) (pg_nm S_barred_boxes.nd rfl (by first | exact Or.inl rfl | exact Or.inr rfl) (by first | exact Or.inl rfl | exact Or.inr rfl) hL0n) ?_
    refine pss_1D ?_
    exact ps_dropD (pe_appendD (pv 2) (pa_cD (pe_tD cr_tuple bt_tuple (by first | rfl | decide) x.b_tuple (POs.cons rfl (pe_lcN (own := [("low", 5), ("high", 6), ("there", 7)]) (LcOk.mk rfl S_barred_boxes.nd (pi_zipD (by first | rfl | decide) x.b_zip (pa_cD (pe_varD (pv 3)) (pa_cD (pe_varD (pv 4)) pa_nD rfl) rfl) rfl rfl) (blk_by (by kernel_rfl)) (fun _ _ _ _ _ => ⟨rfl, (pg_tp rfl rfl (pgs_c rfl (pg_tp rfl rfl (pgs_c rfl (pg_nm S_barred_boxes.nd rfl (by first | exact Or.inl rfl | exact Or.inr rfl) (by first | exact Or.inl rfl | exact Or.inr rfl) hL0n) (pgs_c rfl (pg_nm S_barred_boxes.nd rfl (by first | exact Or.inl rfl | exact Or.inr rfl) (by first | exact Or.inl rfl | exact Or.inr rfl) hL0n) pgs_n)) rfl) (pgs_c rfl (pg_nm S_barred_boxes.nd rfl (by first | exact Or.inl rfl | exact Or.inr rfl) (by first | exact Or.inl rfl | exact Or.inr rfl) hL0n) pgs_n)) rfl), pts_nD⟩) (fun _ _ _ _ _ => ClIns.nil) (fun _ _ _ _ _ => (pe_tupD (pa_cD (pe_opD op_subD (pv 5) (pe_ixD (ix_D2 (Room.units hr)) (by intro _ _; rfl) (pv 7) pe_iD)) (pa_cD (pe_opD op_subD (pv 6) (pe_ixD (ix_D2 (Room.units hr)) (by intro _ _; rfl) (pv 7) pe_iD)) pa_nD rfl) rfl))) (fun _ => rfl) (show List.Nodup [5, 6, 7] from by decide) (show ∀ i ∈ ([5, 6, 7] : List Nat), i ∈ ([5, 6, 7] : List Nat) from by decide) hL0m)) POs.nil) rfl) pa_nD rfl) rfl)
  refine pss_1D ?_
  exact ps_retD (pe_tD cr_tuple bt_tuple (by first | rfl | decide) x.b_tuple (POs.cons rfl (pv 2) POs.nil) rfl)
def N_is_clear : List Str := ["scene", "thing", "place", "barred", "box"]
noncomputable def m_is_clear : MS := (mSeq (mSet 3 (sCallX F_barred_boxes (aC (sVar 0) (aC (sVar 1) aN)))) (mSeq (mIf (bNot (bTru (.ex (sCall F_is_place (aC (sVar 2) (aC (sOp2 pIx2 (.nm 0) (.ex (sC (.int 0)))) aN)))))) (mRaise "Malformed") mNext) (mRet (sNot (sAny false [4] ⟨(sIt (sVar 3)), (.nm 4), bYes⟩ [] (sCall F_holds (aC (sVar 4) (aC (sVar 2) aN))))))))
noncomputable def F_is_clear : Fn := ofBody 2 m_is_clear
theorem S_is_clear : FnScope N_is_clear ["scene", "thing", "place"] (fnScope (top 21)) := C8.fnScope_by (by decide +kernel)
theorem ok_is_clear (x : Tx P w K mg base tabs) : CalX P w K mg base 16 "is_clear" (dSpX ⟨P, w, K⟩ mg tabs 3 F_is_clear) := by
  obtain ⟨f, fd, c, Pt, D, TB, hP⟩ := x.f_is_clear
  obtain ⟨_, e_Malformed⟩ := x.e_Malformed
  refine cal_fnX (N := N_is_clear) (k := 15) D (fun _ _ _ _ _ _ us hl => match us, hl with | [_, _, _], _ => rfl) S_is_clear rfl fun A outer s H E hr tk => ?_
  refine pss_cD ?_ ?_
  · exact ps_setD S_is_clear.nd rfl (by first | exact Or.inl rfl | exact Or.inr rfl) hL0n (pe_fnX (ok_barred_boxes x) hr (by decide) tk (by first | rfl | decide) (pa_cD (pe_varD (pv 0)) (pa_cD (pe_varD (pv 1)) pa_nD rfl) rfl) rfl (len_C (len_C len_N)) rfl) rfl (by first | exact Or.inl rfl | exact Or.inr rfl)
  refine pss_cD ?_ ?_
  · refine ps_ifD (pt_notD (pt_truD (pe_fnD (ok_is_place x) hr (by decide) (by first | rfl | decide) (pa_cD (pe_varD (pv 2)) (pa_cD (pe_ixD (ix_D2 (Room.units hr)) (by intro _ _; rfl) (pv 0) pe_iD) pa_nD rfl) rfl) rfl (len_C (len_C len_N)) rfl))) ?_ ?_
    · refine pss_1D ?_
      exact ps_raiseD rfl tk e_Malformed (by first | rfl | decide)
    · exact pss_nD
  refine pss_1D ?_
  exact ps_retD (pe_notD (pe_anyN (own := [("box", 4)]) (GcOk.mk rfl S_is_clear.nd ⟨_, hr⟩ (pi_D (pe_varD (pv 3))) (gblk_by (by kernel_rfl)) (fun _ _ _ _ _ _ _ => ⟨rfl, (pg_nm S_is_clear.nd rfl (by first | exact Or.inl rfl | exact Or.inr rfl) (by first | exact Or.inl rfl | exact Or.inr rfl) hL0n), pts_nD⟩) (fun _ _ _ _ _ _ _ => ClIns.nil) (fun _ _ _ _ _ _ _ => (pe_fnD (ok_holds x) (room_g hr) (by decide) (by first | rfl | decide) (pa_cD (pe_varD (pv 4)) (pa_cD (pe_varD (pv 2)) pa_nD rfl) rfl) rfl (len_C (len_C len_N)) rfl)) (fun _ => rfl) (show List.Nodup [4] from by decide) (show ∀ i ∈ ([4] : List Nat), i ∈ ([4] : List Nat) from by decide) hL0m ⟨_, _, TB, rfl, hP⟩) (by first | rfl | decide) x.b_any))
def N_meets : List Str := ["box", "place", "other", "low", "high", "one", "two"]
noncomputable def m_meets : MS := (mSeq (mFor (sZip3 (aC (sVar 0) (aC (sVar 1) (aC (sVar 2) aN)))) (.tup [(.tup [(.nm 3), (.nm 4)]), (.nm 5), (.nm 6)]) (mIf (bNot (bAnd (bVal (sOp2 pLt (.ex (sN pMin [(.nm 5), (.nm 6)])) (.nm 4))) (bVal (sOp2 pLt (.nm 3) (.ex (sN pMax [(.nm 5), (.nm 6)])))))) (mRet (sC (.bool false))) mNext)) (mRet (sC (.bool true))))
noncomputable def F_meets : Fn := ofBody 4 m_meets
theorem S_meets : FnScope N_meets ["box", "place", "other"] (fnScope (top 23)) := C8.fnScope_by (by decide +kernel)
theorem ok_meets (x : Tx P w K mg base tabs) : Cal P w K mg base 1 "meets" (dSp ⟨P, w, K⟩ tabs 3 F_meets) [] := by
  obtain ⟨f, fd, cdv, D⟩ := x.f_meets
  refine cal_fn (N := N_meets) (k := 0) D (fun _ _ _ _ _ _ us hl => match us, hl with | [_, _, _], _ => rfl) S_meets rfl fun A outer s H E hr => ?_
  refine pss_cD ?_ ?_
  · refine ps_forD PassesOwn.never rfl (pi_zip3D (by first | rfl | decide) x.b_zip (pa_cD (pe_varD (pv 0)) (pa_cD (pe_varD (pv 1)) (pa_cD (pe_varD (pv 2)) pa_nD rfl) rfl) rfl) rfl rfl) (pg_tp rfl rfl (pgs_c rfl (pg_tp rfl rfl (pgs_c rfl (pg_nm S_meets.nd rfl (by first | exact Or.inl rfl | exact Or.inr rfl) (by first | exact Or.inl rfl | exact Or.inr rfl) hL0n) (pgs_c rfl (pg_nm S_meets.nd rfl (by first | exact Or.inl rfl | exact Or.inr rfl) (by first | exact Or.inl rfl | exact Or.inr rfl) hL0n) pgs_n)) rfl) (pgs_c rfl (pg_nm S_meets.nd rfl (by first | exact Or.inl rfl | exact Or.inr rfl) (by first | exact Or.inl rfl | exact Or.inr rfl) hL0n) (pgs_c rfl (pg_nm S_meets.nd rfl (by first | exact Or.inl rfl | exact Or.inr rfl) (by first | exact Or.inl rfl | exact Or.inr rfl) hL0n) pgs_n))) rfl) ?_
    refine pss_1D ?_
    refine ps_ifD (pt_notD (PW.pt (pw_andD (pt_cmpD (op_ltD (Room.units hr)) (nomark _) (pe_bD (cr_minD rfl) bt_min (by first | rfl | decide) x.b_min (POs.cons rfl (pv 5) (POs.cons rfl (pv 6) POs.nil)) rfl) (pv 4)) (pw_and1D (pt_cmpD (op_ltD (Room.units hr)) (nomark _) (pv 3) (pe_bD (cr_maxD rfl) bt_max (by first | rfl | decide) x.b_max (POs.cons rfl (pv 5) (POs.cons rfl (pv 6) POs.nil)) rfl)))))) ?_ ?_
    · refine pss_1D ?_
      exact ps_retD pe_bD'
    · exact pss_nD
  refine pss_1D ?_
  exact ps_retD pe_bD'
def N_is_shift_clear : List Str := ["barred", "place", "other", "one", "two", "box"]
noncomputable def m_is_shift_clear : MS := (mSeq (mIf (bVal (sOp2 pNe (.ex (sN pSum [(.ex (sListComp [3, 4] ⟨(sZip (aC (sVar 1) (aC (sVar 2) aN))), (.tup [(.nm 3), (.nm 4)]), (bVal (sOp2 pNe (.nm 3) (.nm 4)))⟩ [] (sC (.int 1))))])) (.ex (sC (.int 1))))) (mRet (sC (.bool false))) mNext) (mRet (sNot (sAny false [5] ⟨(sIt (sVar 0)), (.nm 5), bYes⟩ [] (sCall F_meets (aC (sVar 5) (aC (sVar 1) (aC (sVar 2) aN))))))))
noncomputable def F_is_shift_clear : Fn := ofBody 3 m_is_shift_clear
theorem S_is_shift_clear : FnScope N_is_shift_clear ["barred", "place", "other"] (fnScope (top 22)) := C8.fnScope_by (by decide +kernel)
theorem ok_is_shift_clear (x : Tx P w K mg base tabs) : Cal P w K mg base 5 "is_shift_clear" (dSp ⟨P, w, K⟩ tabs 3 F_is_shift_clear) [] := by
  obtain ⟨f, fd, c, Pt, D, TB, hP⟩ := x.f_is_shift_clear
  refine cal_fn (N := N_is_shift_clear) (k := 4) D (fun _ _ _ _ _ _ us hl => match us, hl with | [_, _, _], _ => rfl) S_is_shift_clear rfl fun A outer s H E hr => ?_
  refine pss_cD ?_ ?_
  · refine ps_ifD (pt_cmpD (op_neDD (Room.units hr)) (nomark _) (pe_bD (cr_sumD rfl) bt_sum (by first | rfl | decide) x.b_sum (POs.cons rfl (pe_lcN (own := [("one", 3), ("two", 4)]) (LcOk.mk rfl S_is_shift_clear.nd (pi_zipD (by first | rfl | decide) x.b_zip (pa_cD (pe_varD (pv 1)) (pa_cD (pe_varD (pv 2)) pa_nD rfl) rfl) rfl rfl) (blk_by (by kernel_rfl)) (fun _ _ _ _ _ => ⟨rfl, (pg_tp rfl rfl (pgs_c rfl (pg_nm S_is_shift_clear.nd rfl (by first | exact Or.inl rfl | exact Or.inr rfl) (by first | exact Or.inl rfl | exact Or.inr rfl) hL0n) (pgs_c rfl (pg_nm S_is_shift_clear.nd rfl (by first | exact Or.inl rfl | exact Or.inr rfl) (by first | exact Or.inl rfl | exact Or.inr rfl) hL0n) pgs_n)) rfl), (pts_1D (pt_cmpD (op_neDD (Room.units hr)) (nomark _) (pv 3) (pv 4)))⟩) (fun _ _ _ _ _ => ClIns.nil) (fun _ _ _ _ _ => pe_iD) (fun _ => rfl) (show List.Nodup [3, 4] from by decide) (show ∀ i ∈ ([3, 4] : List Nat), i ∈ ([3, 4] : List Nat) from by decide) hL0m)) POs.nil) rfl) pe_iD) ?_ ?_
    · refine pss_1D ?_
      exact ps_retD pe_bD'
    · exact pss_nD
  refine pss_1D ?_
  exact ps_retD (pe_notD (pe_anyN (own := [("box", 5)]) (GcOk.mk rfl S_is_shift_clear.nd ⟨_, hr⟩ (pi_D (pe_varD (pv 0))) (gblk_by (by kernel_rfl)) (fun _ _ _ _ _ _ _ => ⟨rfl, (pg_nm S_is_shift_clear.nd rfl (by first | exact Or.inl rfl | exact Or.inr rfl) (by first | exact Or.inl rfl | exact Or.inr rfl) hL0n), pts_nD⟩) (fun _ _ _ _ _ _ _ => ClIns.nil) (fun _ _ _ _ _ _ _ => (pe_fnD (ok_meets x) (room_g hr) (by decide) (by first | rfl | decide) (pa_cD (pe_varD (pv 5)) (pa_cD (pe_varD (pv 1)) (pa_cD (pe_varD (pv 2)) pa_nD rfl) rfl) rfl) rfl (len_C (len_C (len_C len_N))) rfl)) (fun _ => rfl) (show List.Nodup [5] from by decide) (show ∀ i ∈ ([5] : List Nat), i ∈ ([5] : List Nat) from by decide) hL0m ⟨_, _, TB, rfl, hP⟩) (by first | rfl | decide) x.b_any))
def N_is_way : List Str := ["scene", "thing", "value", "barred", "one", "box", "other"]
noncomputable def m_is_way : MS := (mSeq (mSet 3 (sCallX F_barred_boxes (aC (sVar 0) (aC (sVar 1) aN)))) (mSeq (mIf (bOr (bNot (bTru (.ex (sOp1 (pIsi "tuple") (.nm 2))))) (bOr (bVal (sOp2 pEq (.ex (sN pLen2 [(.nm 2)])) (.ex (sC (.int 0))))) (bNot (bTru (.ex (sAny true [4] ⟨(sIt (sVar 2)), (.nm 4), bYes⟩ [] (sCall F_is_place (aC (sVar 4) (aC (sOp2 pIx2 (.nm 0) (.ex (sC (.int 0)))) aN))))))))) (mRet (sC (.bool false))) mNext) (mSeq (mIf (bTru (.ex (sAny false [5] ⟨(sIt (sVar 3)), (.nm 5), bYes⟩ [] (sCall F_holds (aC (sVar 5) (aC (sOp2 pIx2 (.nm 2) (.ex (sC (.int 0)))) aN)))))) (mRet (sC (.bool false))) mNext) (mRet (sAny true [4, 6] ⟨(sZip (aC (sVar 2) (aC (sSl (.nm 2) (.ex (sC (.int 1))) .no) aN))), (.tup [(.nm 4), (.nm 6)]), bYes⟩ [] (sCall F_is_shift_clear (aC (sVar 3) (aC (sVar 4) (aC (sVar 6) aN)))))))))
noncomputable def F_is_way : Fn := ofBody 4 m_is_way
theorem S_is_way : FnScope N_is_way ["scene", "thing", "value"] (fnScope (top 24)) := C8.fnScope_by (by decide +kernel)
theorem ok_is_way (x : Tx P w K mg base tabs) : CalX P w K mg base 16 "is_way" (dSpX ⟨P, w, K⟩ mg tabs 3 F_is_way) := by
  obtain ⟨f, fd, c, Pt, D, TB, hP⟩ := x.f_is_way
  refine cal_fnX (N := N_is_way) (k := 15) D (fun _ _ _ _ _ _ us hl => match us, hl with | [_, _, _], _ => rfl) S_is_way rfl fun A outer s H E hr tk => ?_
  refine pss_cD ?_ ?_
  · exact ps_setD S_is_way.nd rfl (by first | exact Or.inl rfl | exact Or.inr rfl) hL0n (pe_fnX (ok_barred_boxes x) hr (by decide) tk (by first | rfl | decide) (pa_cD (pe_varD (pv 0)) (pa_cD (pe_varD (pv 1)) pa_nD rfl) rfl) rfl (len_C (len_C len_N)) rfl) rfl (by first | exact Or.inl rfl | exact Or.inr rfl)
  refine pss_cD ?_ ?_
  · refine ps_ifD (PW.pt (pw_orD (pt_notD (pt_truD (pe_isiD (by first | rfl | decide) x.b_isinstance (by first | rfl | decide) x.b_tuple bt_tuple rfl (pv 2)))) (pw_orD (pt_cmpD (op_eqDD (Room.units hr)) (nomark _) (pe_bD cr_len2 bt_len (by first | rfl | decide) x.b_len (POs.cons rfl (pv 2) POs.nil) rfl) pe_iD) (pw_or1D (pt_notD (pt_truD (pe_allN (own := [("one", 4)]) (GcOk.mk rfl S_is_way.nd ⟨_, hr⟩ (pi_D (pe_varD (pv 2))) (gblk_by (by kernel_rfl)) (fun _ _ _ _ _ _ _ => ⟨rfl, (pg_nm S_is_way.nd rfl (by first | exact Or.inl rfl | exact Or.inr rfl) (by first | exact Or.inl rfl | exact Or.inr rfl) hL0n), pts_nD⟩) (fun _ _ _ _ _ _ _ => ClIns.nil) (fun _ _ _ _ _ _ _ => (pe_fnD (ok_is_place x) (room_g hr) (by decide) (by first | rfl | decide) (pa_cD (pe_varD (pv 4)) (pa_cD (pe_ixD (ix_D2 (Room.units (room_g hr))) (by intro _ _; rfl) (pv 0) pe_iD) pa_nD rfl) rfl) rfl (len_C (len_C len_N)) rfl)) (fun _ => rfl) (show List.Nodup [4] from by decide) (show ∀ i ∈ ([4] : List Nat), i ∈ ([4] : List Nat) from by decide) hL0m ⟨_, _, TB, rfl, hP⟩) (by first | rfl | decide) x.b_all))))))) ?_ ?_
    · refine pss_1D ?_
      exact ps_retD pe_bD'
    · exact pss_nD
  refine pss_cD ?_ ?_
  · refine ps_ifD (pt_truD (pe_anyN (own := [("box", 5)]) (GcOk.mk rfl S_is_way.nd ⟨_, hr⟩ (pi_D (pe_varD (pv 3))) (gblk_by (by kernel_rfl)) (fun _ _ _ _ _ _ _ => ⟨rfl, (pg_nm S_is_way.nd rfl (by first | exact Or.inl rfl | exact Or.inr rfl) (by first | exact Or.inl rfl | exact Or.inr rfl) hL0n), pts_nD⟩) (fun _ _ _ _ _ _ _ => ClIns.nil) (fun _ _ _ _ _ _ _ => (pe_fnD (ok_holds x) (room_g hr) (by decide) (by first | rfl | decide) (pa_cD (pe_varD (pv 5)) (pa_cD (pe_ixD (ix_D2 (Room.units (room_g hr))) (by intro _ _; rfl) (pv 2) pe_iD) pa_nD rfl) rfl) rfl (len_C (len_C len_N)) rfl)) (fun _ => rfl) (show List.Nodup [5] from by decide) (show ∀ i ∈ ([5] : List Nat), i ∈ ([5] : List Nat) from by decide) hL0m ⟨_, _, TB, rfl, hP⟩) (by first | rfl | decide) x.b_any)) ?_ ?_
    · refine pss_1D ?_
      exact ps_retD pe_bD'
    · exact pss_nD
  refine pss_1D ?_
  exact ps_retD (pe_allN (own := [("one", 4), ("other", 6)]) (GcOk.mk rfl S_is_way.nd ⟨_, hr⟩ (pi_zipD (by first | rfl | decide) x.b_zip (pa_cD (pe_varD (pv 2)) (pa_cD (pe_slD (pv 2) ⟨_, rfl, pe_iD⟩ rfl) pa_nD rfl) rfl) rfl rfl) (gblk_by (by kernel_rfl)) (fun _ _ _ _ _ _ _ => ⟨rfl, (pg_tp rfl rfl (pgs_c rfl (pg_nm S_is_way.nd rfl (by first | exact Or.inl rfl | exact Or.inr rfl) (by first | exact Or.inl rfl | exact Or.inr rfl) hL0n) (pgs_c rfl (pg_nm S_is_way.nd rfl (by first | exact Or.inl rfl | exact Or.inr rfl) (by first | exact Or.inl rfl | exact Or.inr rfl) hL0n) pgs_n)) rfl), pts_nD⟩) (fun _ _ _ _ _ _ _ => ClIns.nil) (fun _ _ _ _ _ _ _ => (pe_fnD (ok_is_shift_clear x) (room_g hr) (by decide) (by first | rfl | decide) (pa_cD (pe_varD (pv 3)) (pa_cD (pe_varD (pv 4)) (pa_cD (pe_varD (pv 6)) pa_nD rfl) rfl) rfl) rfl (len_C (len_C (len_C len_N))) rfl)) (fun _ => rfl) (show List.Nodup [4, 6] from by decide) (show ∀ i ∈ ([4, 6] : List Nat), i ∈ ([4, 6] : List Nat) from by decide) hL0m ⟨_, _, TB, rfl, hP⟩) (by first | rfl | decide) x.b_all)
def N_length_of : List Str := ["way", "found", "one", "other", "first", "second"]
noncomputable def m_length_of : MS := (mSeq (mSet 1 (sC (.int 0))) (mSeq (mFor (sZip (aC (sVar 0) (aC (sSl (.nm 0) (.ex (sC (.int 1))) .no) aN))) (.tup [(.nm 2), (.nm 3)]) (mSet 1 (sOp2 pAdd (.nm 1) (.ex (sN pSum [(.ex (sListComp [4, 5] ⟨(sZip (aC (sVar 2) (aC (sVar 3) aN))), (.tup [(.nm 4), (.nm 5)]), bYes⟩ [] (sN pAbs [(.ex (sOp2 pSub (.nm 4) (.nm 5)))])))]))))) (mRetV 1)))
noncomputable def F_length_of : Fn := ofBody 5 m_length_of
theorem S_length_of : FnScope N_length_of ["way"] (fnScope (top 25)) := C8.fnScope_by (by decide +kernel)
theorem ok_length_of (x : Tx P w K mg base tabs) : Cal P w K mg base 1 "length_of" (dSp ⟨P, w, K⟩ tabs 1 F_length_of) [] := by
  obtain ⟨f, fd, cdv, D⟩ := x.f_length_of
  refine cal_fn (N := N_length_of) (k := 0) D (fun _ _ _ _ _ _ us hl => match us, hl with | [_], _ => rfl) S_length_of rfl fun A outer s H E hr => ?_
  refine pss_cD ?_ ?_
  · exact ps_setD S_length_of.nd rfl (by first | exact Or.inl rfl | exact Or.inr rfl) hL0n pe_iD rfl (by first | exact Or.inl rfl | exact Or.inr rfl)
  refine pss_cD ?_ ?_
  · refine ps_forD PassesOwn.never rfl (pi_zipD (by first | rfl | decide) x.b_zip (pa_cD (pe_varD (pv 0)) (pa_cD (pe_slD (pv 0) ⟨_, rfl, pe_iD⟩ rfl) pa_nD rfl) rfl) rfl rfl) (pg_tp rfl rfl (pgs_c rfl (pg_nm S_length_of.nd rfl (by first | exact Or.inl rfl | exact Or.inr rfl) (by first | exact Or.inl rfl | exact Or.inr rfl) hL0n) (pgs_c rfl (pg_nm S_length_of.nd rfl (by first | exact Or.inl rfl | exact Or.inr rfl) (by first | exact Or.inl rfl | exact Or.inr rfl) hL0n) pgs_n)) rfl) ?_
    refine pss_1D ?_
    exact ps_setD S_length_of.nd rfl (by first | exact Or.inl rfl | exact Or.inr rfl) hL0n (pe_opD op_addD (pv 1) (pe_bD (cr_sumD rfl) bt_sum (by first | rfl | decide) x.b_sum (POs.cons rfl (pe_lcN (own := [("first", 4), ("second", 5)]) (LcOk.mk rfl S_length_of.nd (pi_zipD (by first | rfl | decide) x.b_zip (pa_cD (pe_varD (pv 2)) (pa_cD (pe_varD (pv 3)) pa_nD rfl) rfl) rfl rfl) (blk_by (by kernel_rfl)) (fun _ _ _ _ _ => ⟨rfl, (pg_tp rfl rfl (pgs_c rfl (pg_nm S_length_of.nd rfl (by first | exact Or.inl rfl | exact Or.inr rfl) (by first | exact Or.inl rfl | exact Or.inr rfl) hL0n) (pgs_c rfl (pg_nm S_length_of.nd rfl (by first | exact Or.inl rfl | exact Or.inr rfl) (by first | exact Or.inl rfl | exact Or.inr rfl) hL0n) pgs_n)) rfl), pts_nD⟩) (fun _ _ _ _ _ => ClIns.nil) (fun _ _ _ _ _ => (pe_bD cr_abs bt_abs (by first | rfl | decide) x.b_abs (POs.cons rfl (pe_opD op_subD (pv 4) (pv 5)) POs.nil) rfl)) (fun _ => rfl) (show List.Nodup [4, 5] from by decide) (show ∀ i ∈ ([4, 5] : List Nat), i ∈ ([4, 5] : List Nat) from by decide) hL0m)) POs.nil) rfl)) rfl (by first | exact Or.inl rfl | exact Or.inr rfl)
  refine pss_1D ?_
  exact ps_retVD (pv 1) rfl
def N__law_draws : List Str := ["script", "draws", "cell", "number", "first", "k", "seed"]
noncomputable def m__law_draws : MS := (mSeq (mSet 1 (sLst aN)) (mSeq (mFor (sIt (sVar 0)) (.nm 2) (mSeq (mSet 3 (sN pAbs [(.nm 2)])) (mSeq (mIf (bVal (sOp2 pLt (.nm 3) (.ex (sOp2 pPow (.ex (sC (.int 10))) (.ex (sC (.int 18))))))) (mSeq (mSet 4 (sOp2 pMod (.ex (sN pInt [(.ex (sOp2 pAdd (.ex (sOp2 pRep (.nm 3) (.ex (sC (.int 48271))))) (.ex (sC (.int 11)))))])) (.ex (sC (.int 2147483647))))) (mSeq (mDrop (sLM opAppend 1 (aC (sOp2 pMod (.ex (sN pInt [(.ex (sOp2 pAdd (.ex (sOp2 pRep (.nm 4) (.ex (sC (.int 69621))))) (.nm 3)))])) (.ex (sC (.int 2147483629)))) aN))) (mSeq (mDrop (sLM opAppend 1 (aC (sOp2 pMod (.ex (sN pInt [(.ex (sOp2 pAdd (.nm 4) (.ex (sOp2 pDiv (.nm 3) (.ex (sC (.int 7)))))))])) (.ex (sC (.int 1000003)))) aN))) (mSet 3 (sC (.int 0)))))) mNext) (mFor (sRange1 (aC (sC (.int 60)) aN)) (.nm 5) (mIf (bVal (sOp2 pGt (.nm 3) (.ex (sC (.int 0))))) (mSeq (mDrop (sLM opAppend 1 (aC (sOp2 pMod (.ex (sN pInt [(.nm 3)])) (.ex (sC (.int 997)))) aN))) (mSet 3 (sOp2 pDiv (.nm 3) (.ex (sC (.int 997)))))) mNext))))) (mSeq (mSet 6 (sC (.int 1))) (mSeq (mIf (bVal (sOp2 pGt (.ex (sN pLen2 [(.nm 0)])) (.ex (sC (.int 0))))) (mSet 6 (sOp2 pAdd (.ex (sC (.int 1))) (.ex (sN pAbs [(.ex (sOp2 pIx2 (.nm 0) (.ex (sC (.int 0)))))])))) mNext) (mSeq (mFor (sRange1 (aC (sC (.int 900)) aN)) (.nm 5) (mSeq (mSet 6 (sOp2 pMod (.ex (sN pInt [(.ex (sOp2 pAdd (.ex (sOp2 pRep (.nm 6) (.ex (sC (.int 48271))))) (.ex (sC (.int 69621)))))])) (.ex (sC (.int 2147483647))))) (mDrop (sLM opAppend 1 (aC (sOp2 pDiv (.nm 6) (.ex (sC (.int 5)))) aN))))) (mRet (sOp1 pRevL (.nm 1))))))))
noncomputable def F__law_draws : Fn := ofBody 6 m__law_draws
theorem S__law_draws : FnScope N__law_draws ["script"] (fnScope (top 27)) := C8.fnScope_by (by decide +kernel)
theorem ok__law_draws (x : Tx P w K mg base tabs) : Cal P w K mg base 1 "_law_draws" (dSp ⟨P, w, K⟩ tabs 1 F__law_draws) [] := by
  obtain ⟨f, fd, cdv, D⟩ := x.f__law_draws
  refine cal_fn (N := N__law_draws) (k := 0) D (fun _ _ _ _ _ _ us hl => match us, hl with | [_], _ => rfl) S__law_draws rfl fun A outer s H E hr => ?_
  refine pss_cD ?_ ?_
  · exact ps_setD S__law_draws.nd rfl (by first | exact Or.inl rfl | exact Or.inr rfl) hL0n (pe_lstD pa_nD) rfl (by first | exact Or.inl rfl | exact Or.inr rfl)
  refine pss_cD ?_ ?_
  · refine ps_forD PassesOwn.never rfl (pi_D (pe_varD (pv 0))) (pg_nm S__law_draws.nd rfl (by first | exact Or.inl rfl | exact Or.inr rfl) (by first | exact Or.inl rfl | exact Or.inr rfl) hL0n) ?_
    refine pss_cD ?_ ?_
    · exact ps_setD S__law_draws.nd rfl (by first | exact Or.inl rfl | exact Or.inr rfl) hL0n (pe_bD cr_abs bt_abs (by first | rfl | decide) x.b_abs (POs.cons rfl (pv 2) POs.nil) rfl) rfl (by first | exact Or.inl rfl | exact Or.inr rfl)
    refine pss_cD ?_ ?_
    · refine ps_ifD (pt_cmpD (op_ltD (Room.units hr)) (nomark _) (pv 3) (pe_opD op_powD pe_iD pe_iD)) ?_ ?_
      · refine pss_cD ?_ ?_
        · exact ps_setD S__law_draws.nd rfl (by first | exact Or.inl rfl | exact Or.inr rfl) hL0n (pe_opD op_modD (pe_tD cr_int bt_int (by first | rfl | decide) x.b_int (POs.cons rfl (pe_opD op_addD (pe_opD op_mulD (pv 3) pe_iD) pe_iD) POs.nil) rfl) pe_iD) rfl (by first | exact Or.inl rfl | exact Or.inr rfl)
        refine pss_cD ?_ ?_
        · exact ps_dropD (pe_appendD (pv 1) (pa_cD (pe_opD op_modD (pe_tD cr_int bt_int (by first | rfl | decide) x.b_int (POs.cons rfl (pe_opD op_addD (pe_opD op_mulD (pv 4) pe_iD) (pv 3)) POs.nil) rfl) pe_iD) pa_nD rfl) rfl)
        refine pss_cD ?_ ?_
        · exact ps_dropD (pe_appendD (pv 1) (pa_cD (pe_opD op_modD (pe_tD cr_int bt_int (by first | rfl | decide) x.b_int (POs.cons rfl (pe_opD op_addD (pv 4) (pe_opD op_divD (pv 3) pe_iD)) POs.nil) rfl) pe_iD) pa_nD rfl) rfl)
        refine pss_1D ?_
        exact ps_setD S__law_draws.nd rfl (by first | exact Or.inl rfl | exact Or.inr rfl) hL0n pe_iD rfl (by first | exact Or.inl rfl | exact Or.inr rfl)
      · exact pss_nD
    refine pss_1D ?_
    refine ps_forD PassesOwn.never rfl (pi_range1D (by first | rfl | decide) x.b_range (pa_cD pe_iD pa_nD rfl) rfl) (pg_nm S__law_draws.nd rfl (by first | exact Or.inl rfl | exact Or.inr rfl) (by first | exact Or.inl rfl | exact Or.inr rfl) hL0n) ?_
    refine pss_1D ?_
    refine ps_ifD (pt_cmpD (op_gtD (Room.units hr)) (nomark _) (pv 3) pe_iD) ?_ ?_
    · refine pss_cD ?_ ?_
      · exact ps_dropD (pe_appendD (pv 1) (pa_cD (pe_opD op_modD (pe_tD cr_int bt_int (by first | rfl | decide) x.b_int (POs.cons rfl (pv 3) POs.nil) rfl) pe_iD) pa_nD rfl) rfl)
      refine pss_1D ?_
      exact ps_setD S__law_draws.nd rfl (by first | exact Or.inl rfl | exact Or.inr rfl) hL0n (pe_opD op_divD (pv 3) pe_iD) rfl (by first | exact Or.inl rfl | exact Or.inr rfl)
    · exact pss_nD
  refine pss_cD ?_ ?_
  · exact ps_setD S__law_draws.nd rfl (by first | exact Or.inl rfl | exact Or.inr rfl) hL0n pe_iD rfl (by first | exact Or.inl rfl | exact Or.inr rfl)
  refine pss_cD ?_ ?_
  · refine ps_ifD (pt_cmpD (op_gtD (Room.units hr)) (nomark _) (pe_bD cr_len2 bt_len (by first | rfl | decide) x.b_len (POs.cons rfl (pv 0) POs.nil) rfl) pe_iD) ?_ ?_
    · refine pss_1D ?_
      exact ps_setD S__law_draws.nd rfl (by first | exact Or.inl rfl | exact Or.inr rfl) hL0n (pe_opD op_addD pe_iD (pe_bD cr_abs bt_abs (by first | rfl | decide) x.b_abs (POs.cons rfl (pe_ixD (ix_D2 (Room.units hr)) (by intro _ _; rfl) (pv 0) pe_iD) POs.nil) rfl)) rfl (by first | exact Or.inl rfl | exact Or.inr rfl)
    · exact pss_nD
  refine pss_cD ?_ ?_
  · refine ps_forD PassesOwn.never rfl (pi_range1D (by first | rfl | decide) x.b_range (pa_cD pe_iD pa_nD rfl) rfl) (pg_nm S__law_draws.nd rfl (by first | exact Or.inl rfl | exact Or.inr rfl) (by first | exact Or.inl rfl | exact Or.inr rfl) hL0n) ?_
    refine pss_cD ?_ ?_
    · exact ps_setD S__law_draws.nd rfl (by first | exact Or.inl rfl | exact Or.inr rfl) hL0n (pe_opD op_modD (pe_tD cr_int bt_int (by first | rfl | decide) x.b_int (POs.cons rfl (pe_opD op_addD (pe_opD op_mulD (pv 6) pe_iD) pe_iD) POs.nil) rfl) pe_iD) rfl (by first | exact Or.inl rfl | exact Or.inr rfl)
    refine pss_1D ?_
    exact ps_dropD (pe_appendD (pv 1) (pa_cD (pe_opD op_divD (pv 6) pe_iD) pa_nD rfl) rfl)
  refine pss_1D ?_
  exact ps_retD (pe_listRevD rfl (by first | rfl | decide) x.b_list (by first | rfl | decide) x.b_reversed (pv 1) rfl)
def N__law_take : List Str := ["draws", "bound"]
noncomputable def m__law_take : MS := (mSeq (mIf (bVal (sOp2 pEq (.ex (sN pLen2 [(.nm 0)])) (.ex (sC (.int 0))))) (mRet (sC (.int 0))) mNext) (mRet (sOp2 pMod (.ex (sN pInt [(.ex (sLM opPop 0 aN))])) (.nm 1))))
noncomputable def F__law_take : FnL := ofBodyL 0 m__law_take
theorem S__law_take : FnScope N__law_take ["draws", "bound"] (fnScope (top 28)) := C8.fnScope_by (by decide +kernel)
theorem ok__law_take (x : Tx P w K mg base tabs) : Cal P w K mg base 1 "_law_take" (dSpL ⟨P, w, K⟩ tabs 1 F__law_take) [] := by
  obtain ⟨f, fd, cdv, D⟩ := x.f__law_take
  refine cal_fnL (N := N__law_take) (k := 0) D (fun _ _ _ _ _ _ us hl => match us, hl with | [_, _], _ => rfl) S__law_take rfl rfl fun a A outer s H E hr => ?_
  refine pss_cD ?_ ?_
  · refine ps_ifD (pt_cmpD (op_eqDD (Room.units hr)) (nomark _) (pe_bD cr_len2 bt_len (by first | rfl | decide) x.b_len (POs.cons rfl (pv 0) POs.nil) rfl) pe_iD) ?_ ?_
    · refine pss_1D ?_
      exact ps_retD pe_iD
    · exact pss_nD
  refine pss_1D ?_
  exact ps_retD (pe_opD op_modD (pe_tD cr_int bt_int (by first | rfl | decide) x.b_int (POs.cons rfl (pe_popD (pv 0)) POs.nil) rfl) (pv 1))
def N__law_alike : List Str := ["found", "due", "k"]
noncomputable def m__law_alike (R : Fn) : MS := (mSeq (mIf (bOr (bTru (.ex (sOp1 (pIsi "list") (.nm 1)))) (bTru (.ex (sOp1 (pIsi "tuple") (.nm 1))))) (mSeq (mIf (bOr (bVal (sOp2 pNe (.ex (sOp1 (pIsi "list") (.nm 0))) (.ex (sOp1 (pIsi "list") (.nm 1))))) (bVal (sOp2 pNe (.ex (sOp1 (pIsi "tuple") (.nm 0))) (.ex (sOp1 (pIsi "tuple") (.nm 1)))))) (mRet (sC (.bool false))) mNext) (mRet (sAnd (sOp2 pEq (.ex (sN pLen2 [(.nm 0)])) (.ex (sN pLen2 [(.nm 1)]))) (sOp2 pEq (.ex (sListComp [2] ⟨(sRange1 (aC (sN pLen2 [(.nm 1)]) aN)), (.nm 2), (bNot (bTru (.ex (sCall R (aC (sOp2 pIx2 (.nm 0) (.nm 2)) (aC (sOp2 pIx2 (.nm 1) (.nm 2)) aN))))))⟩ [] (sVar 2))) (.ex (sLst aN)))))) mNext) (mSeq (mIf (bVal (sOp2 pIs (.nm 1) (.ex (sC .none)))) (mRet (sOp2 pIs (.nm 0) (.ex (sC .none)))) mNext) (mSeq (mIf (bOr (bTru (.ex (sOp1 (pIsi "bool") (.nm 1)))) (bTru (.ex (sOp1 (pIsi "bool") (.nm 0))))) (mRet (sAnd (sOp1 (pIsi "bool") (.nm 0)) (sAnd (sOp1 (pIsi "bool") (.nm 1)) (sOp2 pEq (.nm 0) (.nm 1))))) mNext) (mSeq (mIf (bTru (.ex (sOp1 (pIsi "int") (.nm 1)))) (mRet (sAnd (sOp1 (pIsi "int") (.nm 0)) (sOp2 pEq (.nm 0) (.nm 1)))) mNext) (mRet (sAnd (sOp1 (pIsi "str") (.nm 0)) (sOp2 pEq (.nm 0) (.nm 1))))))))
noncomputable def FF__law_alike (R : Fn) : Fn := ofBody 1 (m__law_alike R)
noncomputable def FN__law_alike : Nat → Fn
  | 0 => fun _ => .bad
  | k + 1 => FF__law_alike (FN__law_alike k)
noncomputable def F__law_alike : Fn := FN__law_alike 8
theorem S__law_alike : FnScope N__law_alike ["found", "due"] (fnScope (top 29)) := C8.fnScope_by (by decide +kernel)
theorem step__law_alike (x : Tx P w K mg base tabs) {R : Fn} {j : Nat} (hj : 0 ≤ j) (cR : Cal P w K mg base j "_law_alike" (dSp ⟨P, w, K⟩ tabs 2 R) []) : Cal P w K mg base (j + 1) "_law_alike" (dSp ⟨P, w, K⟩ tabs 2 (FF__law_alike R)) [] := by
  obtain ⟨f, fd, cdv, D⟩ := x.f__law_alike
  refine cal_fn (N := N__law_alike) D (fun _ _ _ _ _ _ us hl => match us, hl with | [_, _], _ => rfl) S__law_alike rfl fun A outer s H E hr => ?_
  refine pss_cD ?_ ?_
  · refine ps_ifD (PW.pt (pw_orD (pt_truD (pe_isiD (by first | rfl | decide) x.b_isinstance (by first | rfl | decide) x.b_list bt_list rfl (pv 1))) (pw_or1D (pt_truD (pe_isiD (by first | rfl | decide) x.b_isinstance (by first | rfl | decide) x.b_tuple bt_tuple rfl (pv 1)))))) ?_ ?_
    · refine pss_cD ?_ ?_
      · refine ps_ifD (PW.pt (pw_orD (pt_cmpD (op_neDD (Room.units hr)) (nomark _) (pe_isiD (by first | rfl | decide) x.b_isinstance (by first | rfl | decide) x.b_list bt_list rfl (pv 0)) (pe_isiD (by first | rfl | decide) x.b_isinstance (by first | rfl | decide) x.b_list bt_list rfl (pv 1))) (pw_or1D (pt_cmpD (op_neDD (Room.units hr)) (nomark _) (pe_isiD (by first | rfl | decide) x.b_isinstance (by first | rfl | decide) x.b_tuple bt_tuple rfl (pv 0)) (pe_isiD (by first | rfl | decide) x.b_isinstance (by first | rfl | decide) x.b_tuple bt_tuple rfl (pv 1)))))) ?_ ?_
        · refine pss_1D ?_
          exact ps_retD pe_bD'
        · exact pss_nD
      refine pss_1D ?_
      exact ps_retD (pe_andD (pe_cmpD (op_eqDD (Room.units hr)) (nomark _) (pe_bD cr_len2 bt_len (by first | rfl | decide) x.b_len (POs.cons rfl (pv 0) POs.nil) rfl) (pe_bD cr_len2 bt_len (by first | rfl | decide) x.b_len (POs.cons rfl (pv 1) POs.nil) rfl)) (pe_one (pe_cmpD (op_eqDD (Room.units hr)) (nomark _) (pe_lcN (own := [("k", 2)]) (LcOk.mk rfl S__law_alike.nd (pi_range1D (by first | rfl | decide) x.b_range (pa_cD (pe_bD cr_len2 bt_len (by first | rfl | decide) x.b_len (POs.cons rfl (pv 1) POs.nil) rfl) pa_nD rfl) rfl) (blk_by (by kernel_rfl)) (fun _ _ _ _ _ => ⟨rfl, (pg_nm S__law_alike.nd rfl (by first | exact Or.inl rfl | exact Or.inr rfl) (by first | exact Or.inl rfl | exact Or.inr rfl) hL0n), (pts_1D (pt_notD (pt_truD (pe_fnD cR hr (by omega) (by first | rfl | decide) (pa_cD (pe_ixD (ix_D2 (Room.units hr)) (by intro _ _; rfl) (pv 0) (pv 2)) (pa_cD (pe_ixD (ix_D2 (Room.units hr)) (by intro _ _; rfl) (pv 1) (pv 2)) pa_nD rfl) rfl) rfl (len_C (len_C len_N)) rfl))))⟩) (fun _ _ _ _ _ => ClIns.nil) (fun _ _ _ _ _ => (pe_varD (pv 2))) (fun _ => rfl) (show List.Nodup [2] from by decide) (show ∀ i ∈ ([2] : List Nat), i ∈ ([2] : List Nat) from by decide) hL0m)) (pe_lstD pa_nD))))
    · exact pss_nD
  refine pss_cD ?_ ?_
  · refine ps_ifD (pt_cmpD op_isD (nomark _) (pv 1) pe_nD) ?_ ?_
    · refine pss_1D ?_
      exact ps_retD (pe_cmpD op_isD (nomark _) (pv 0) pe_nD)
    · exact pss_nD
  refine pss_cD ?_ ?_
  · refine ps_ifD (PW.pt (pw_orD (pt_truD (pe_isiD (by first | rfl | decide) x.b_isinstance (by first | rfl | decide) x.b_bool bt_bool rfl (pv 1))) (pw_or1D (pt_truD (pe_isiD (by first | rfl | decide) x.b_isinstance (by first | rfl | decide) x.b_bool bt_bool rfl (pv 0)))))) ?_ ?_
    · refine pss_1D ?_
      exact ps_retD (pe_andD (pe_isiD (by first | rfl | decide) x.b_isinstance (by first | rfl | decide) x.b_bool bt_bool rfl (pv 0)) (pe_andD (pe_isiD (by first | rfl | decide) x.b_isinstance (by first | rfl | decide) x.b_bool bt_bool rfl (pv 1)) (pe_one (pe_cmpD (op_eqDD (Room.units hr)) (nomark _) (pv 0) (pv 1)))))
    · exact pss_nD
  refine pss_cD ?_ ?_
  · refine ps_ifD (pt_truD (pe_isiD (by first | rfl | decide) x.b_isinstance (by first | rfl | decide) x.b_int bt_int rfl (pv 1))) ?_ ?_
    · refine pss_1D ?_
      exact ps_retD (pe_andD (pe_isiD (by first | rfl | decide) x.b_isinstance (by first | rfl | decide) x.b_int bt_int rfl (pv 0)) (pe_one (pe_cmpD (op_eqDD (Room.units hr)) (nomark _) (pv 0) (pv 1))))
    · exact pss_nD
  refine pss_1D ?_
  exact ps_retD (pe_andD (pe_isiD (by first | rfl | decide) x.b_isinstance (by first | rfl | decide) x.b_str bt_str rfl (pv 0)) (pe_one (pe_cmpD (op_eqDD (Room.units hr)) (nomark _) (pv 0) (pv 1))))
theorem rec__law_alike (x : Tx P w K mg base tabs) : ∀ k : Nat, Cal P w K mg base (0 + k) "_law_alike" (dSp ⟨P, w, K⟩ tabs 2 (FN__law_alike k)) []
  | 0 => by
    obtain ⟨f, fd, cdv, D⟩ := x.f__law_alike
    exact cal_bad (ps := ["found", "due"]) D rfl (fun _ _ _ _ _ _ us hl => match us, hl with | [_, _], _ => rfl)
  | k + 1 => step__law_alike x (Nat.le_add_right _ _) (rec__law_alike x k)
theorem ok__law_alike (x : Tx P w K mg base tabs) : Cal P w K mg base 8 "_law_alike" (dSp ⟨P, w, K⟩ tabs 2 F__law_alike) [] := rec__law_alike x 8
def N__law_says : List Str := ["found", "due"]
noncomputable def m__law_says : MS := (mRet (sAnd (sOp1 (pIsi "bool") (.nm 0)) (sOp2 pEq (.nm 0) (.nm 1))))
noncomputable def F__law_says : Fn := ofBody 0 m__law_says
theorem S__law_says : FnScope N__law_says ["found", "due"] (fnScope (top 30)) := C8.fnScope_by (by decide +kernel)
theorem ok__law_says (x : Tx P w K mg base tabs) : Cal P w K mg base 1 "_law_says" (dSp ⟨P, w, K⟩ tabs 2 F__law_says) [] := by
  obtain ⟨f, fd, cdv, D⟩ := x.f__law_says
  refine cal_fn (N := N__law_says) (k := 0) D (fun _ _ _ _ _ _ us hl => match us, hl with | [_, _], _ => rfl) S__law_says rfl fun A outer s H E hr => ?_
  refine pss_1D ?_
  exact ps_retD (pe_andD (pe_isiD (by first | rfl | decide) x.b_isinstance (by first | rfl | decide) x.b_bool bt_bool rfl (pv 0)) (pe_one (pe_cmpD (op_eqDD (Room.units hr)) (nomark _) (pv 0) (pv 1))))
def N__law_box : List Str := ["draws", "many", "far", "long", "found", "axis", "low"]
noncomputable def m__law_box : MS := (mSeq (mSet 4 (sLst aN)) (mSeq (mFor (sRange1 (aC (sVar 1) aN)) (.nm 5) (mSeq (mSet 6 (sOp2 pSub (.ex (sCallL F__law_take 0 (aC (sOp2 pAdd (.ex (sOp2 pRep (.ex (sC (.int 2))) (.nm 2))) (.ex (sC (.int 1)))) aN))) (.nm 2))) (mDrop (sLM opAppend 4 (aC (sTup (aC (sVar 6) (aC (sOp2 pAdd (.ex (sOp2 pAdd (.nm 6) (.ex (sC (.int 1))))) (.ex (sCallL F__law_take 0 (aC (sVar 3) aN)))) aN))) aN))))) (mRet (sN pTuple [(.nm 4)]))))
noncomputable def F__law_box : FnL := ofBodyL 3 m__law_box
theorem S__law_box : FnScope N__law_box ["draws", "many", "far", "long"] (fnScope (top 31)) := C8.fnScope_by (by decide +kernel)
theorem ok__law_box (x : Tx P w K mg base tabs) : Cal P w K mg base 2 "_law_box" (dSpL ⟨P, w, K⟩ tabs 3 F__law_box) [] := by
  obtain ⟨f, fd, cdv, D⟩ := x.f__law_box
  refine cal_fnL (N := N__law_box) (k := 1) D (fun _ _ _ _ _ _ us hl => match us, hl with | [_, _, _, _], _ => rfl) S__law_box rfl rfl fun a A outer s H E hr => ?_
  refine pss_cD ?_ ?_
  · exact ps_setD S__law_box.nd rfl (by first | exact Or.inl rfl | exact Or.inr rfl) (hLcn (by decide) hL0n) (pe_lstD pa_nD) rfl (by first | exact Or.inl rfl | exact Or.inr rfl)
  refine pss_cD ?_ ?_
  · refine ps_forD PassesOwn.never rfl (pi_range1D (by first | rfl | decide) x.b_range (pa_cD (pe_varD (pv 1)) pa_nD rfl) rfl) (pg_nm S__law_box.nd rfl (by first | exact Or.inl rfl | exact Or.inr rfl) (by first | exact Or.inl rfl | exact Or.inr rfl) (hLcn (by decide) hL0n)) ?_
    refine pss_cD ?_ ?_
    · exact ps_setD S__law_box.nd rfl (by first | exact Or.inl rfl | exact Or.inr rfl) (hLcn (by decide) hL0n) (pe_opD op_subD (pe_fnLD (ok__law_take x) hr (by decide) (by first | rfl | decide) (pv 0) (pa_cD (pe_opD op_addD (pe_opD op_mulD pe_iD (pv 2)) pe_iD) pa_nD rfl) (len_C len_N) rfl) (pv 2)) rfl (by first | exact Or.inl rfl | exact Or.inr rfl)
    refine pss_1D ?_
    exact ps_dropD (pe_appendD (pv 4) (pa_cD (pe_tupD (pa_cD (pe_varD (pv 6)) (pa_cD (pe_opD op_addD (pe_opD op_addD (pv 6) pe_iD) (pe_fnLD (ok__law_take x) hr (by decide) (by first | rfl | decide) (pv 0) (pa_cD (pe_varD (pv 3)) pa_nD rfl) (len_C len_N) rfl)) pa_nD rfl) rfl)) pa_nD rfl) rfl)
  refine pss_1D ?_
  exact ps_retD (pe_tD cr_tuple bt_tuple (by first | rfl | decide) x.b_tuple (POs.cons rfl (pv 4) POs.nil) rfl)
def N__law_thing : List Str := ["draws", "many", "boxes", "far", "long", "rows", "k", "box"]
noncomputable def m__law_thing : MS := (mSeq (mSet 5 (sListComp [6] ⟨(sRange1 (aC (sOp2 pAdd (.ex (sC (.int 1))) (.ex (sCallL F__law_take 0 (aC (sVar 2) aN)))) aN)), (.nm 6), bYes⟩ [] (sCallL F__law_box 0 (aC (sVar 1) (aC (sVar 3) (aC (sVar 4) aN)))))) (mRet (sN pTuple [(.ex (sN pSorted [(.ex (sN pListC2 [(.ex (sN pDictC [(.ex (sListComp [7] ⟨(sIt (sVar 5)), (.nm 7), bYes⟩ [] (sTup (aC (sVar 7) (aC (sC (.int 1)) aN)))))]))]))]))])))
noncomputable def F__law_thing : FnL := ofBodyL 3 m__law_thing
theorem S__law_thing : FnScope N__law_thing ["draws", "many", "boxes", "far", "long"] (fnScope (top 32)) := C8.fnScope_by (by decide +kernel)
theorem ok__law_thing (x : Tx P w K mg base tabs) : Cal P w K mg base 3 "_law_thing" (dSpL ⟨P, w, K⟩ tabs 4 F__law_thing) [] := by
  obtain ⟨f, fd, cdv, D⟩ := x.f__law_thing
  refine cal_fnL (N := N__law_thing) (k := 2) D (fun _ _ _ _ _ _ us hl => match us, hl with | [_, _, _, _, _], _ => rfl) S__law_thing rfl rfl fun a A outer s H E hr => ?_
  refine pss_cD ?_ ?_
  · first | exact ps_setD' rfl (hLcn (by decide) hL0n) (ps_lcN (own := [("k", 6)]) (LcOk.mk rfl S__law_thing.nd (pi_range1D (by first | rfl | decide) x.b_range (pa_cD (pe_opD op_addD pe_iD (pe_fnLD (ok__law_take x) hr (by decide) (by first | rfl | decide) (pv 0) (pa_cD (pe_varD (pv 2)) pa_nD rfl) (len_C len_N) rfl)) pa_nD rfl) rfl) (blk_by (by kernel_rfl)) (fun _ _ _ _ _ => ⟨rfl, (pg_nm S__law_thing.nd rfl (by first | exact Or.inl rfl | exact Or.inr rfl) (by first | exact Or.inl rfl | exact Or.inr rfl) (hLcn (by decide) hL0n)), pts_nD⟩) (fun _ _ _ _ _ => ClIns.nil) (fun _ _ _ _ _ => (pe_fnLD (ok__law_box x) hr (by decide) (by first | rfl | decide) (pv 0) (pa_cD (pe_varD (pv 1)) (pa_cD (pe_varD (pv 3)) (pa_cD (pe_varD (pv 4)) pa_nD rfl) rfl) rfl) (len_C (len_C (len_C len_N))) rfl)) (fun _ => rfl) (show List.Nodup [6] from by decide) (show ∀ i ∈ ([6] : List Nat), i ∈ ([6] : List Nat) from by decide) (hLcm (by decide) hL0m)) rfl rfl rfl) | exact ps_setD S__law_thing.nd rfl (by first | exact Or.inl rfl | exact Or.inr rfl) (hLcn (by decide) hL0n) (pe_lcN (own := [("k", 6)]) (LcOk.mk rfl S__law_thing.nd (pi_range1D (by first | rfl | decide) x.b_range (pa_cD (pe_opD op_addD pe_iD (pe_fnLD (ok__law_take x) hr (by decide) (by first | rfl | decide) (pv 0) (pa_cD (pe_varD (pv 2)) pa_nD rfl) (len_C len_N) rfl)) pa_nD rfl) rfl) (blk_by (by kernel_rfl)) (fun _ _ _ _ _ => ⟨rfl, (pg_nm S__law_thing.nd rfl (by first | exact Or.inl rfl | exact Or.inr rfl) (by first | exact Or.inl rfl | exact Or.inr rfl) (hLcn (by decide) hL0n)), pts_nD⟩) (fun _ _ _ _ _ => ClIns.nil) (fun _ _ _ _ _ => (pe_fnLD (ok__law_box x) hr (by decide) (by first | rfl | decide) (pv 0) (pa_cD (pe_varD (pv 1)) (pa_cD (pe_varD (pv 3)) (pa_cD (pe_varD (pv 4)) pa_nD rfl) rfl) rfl) (len_C (len_C (len_C len_N))) rfl)) (fun _ => rfl) (show List.Nodup [6] from by decide) (show ∀ i ∈ ([6] : List Nat), i ∈ ([6] : List Nat) from by decide) (hLcm (by decide) hL0m))) rfl (by first | exact Or.inl rfl | exact Or.inr rfl)
  refine pss_1D ?_
  exact ps_retD (pe_tD cr_tuple bt_tuple (by first | rfl | decide) x.b_tuple (POs.cons rfl (pe_bD (cr_sortedD (Room.units hr)) bt_sorted (by first | rfl | decide) x.b_sorted (POs.cons rfl (pe_tD (cr_list2 rfl) bt_list (by first | rfl | decide) x.b_list (POs.cons rfl (pe_tD (cr_dict rfl (Room.units hr)) bt_dict (by first | rfl | decide) x.b_dict (POs.cons rfl (pe_lcN (own := [("box", 7)]) (LcOk.mk rfl S__law_thing.nd (pi_D (pe_varD (pv 5))) (blk_by (by kernel_rfl)) (fun _ _ _ _ _ => ⟨rfl, (pg_nm S__law_thing.nd rfl (by first | exact Or.inl rfl | exact Or.inr rfl) (by first | exact Or.inl rfl | exact Or.inr rfl) (hLcn (by decide) hL0n)), pts_nD⟩) (fun _ _ _ _ _ => ClIns.nil) (fun _ _ _ _ _ => (pe_tupD (pa_cD (pe_varD (pv 7)) (pa_cD pe_iD pa_nD rfl) rfl))) (fun _ => rfl) (show List.Nodup [7] from by decide) (show ∀ i ∈ ([7] : List Nat), i ∈ ([7] : List Nat) from by decide) (hLcm (by decide) hL0m))) POs.nil) rfl) POs.nil) rfl) POs.nil) rfl) POs.nil) rfl)
def N__law_scene : List Str := ["draws", "many", "things", "boxes", "far", "long", "names", "name"]
noncomputable def m__law_scene : MS := (mSeq (mSet 6 (sSl (.ex (sLst (aC (sC (.str "a")) (aC (sC (.str "b")) (aC (sC (.str "bb")) (aC (sC (.str "post")) (aC (sC (.str "wall")) (aC (sC (.str "z")) aN)))))))) .no (.ex (sCallL F__law_take 0 (aC (sOp2 pAdd (.nm 2) (.ex (sC (.int 1)))) aN))))) (mRet (sTup (aC (sVar 1) (aC (sN pTuple [(.ex (sListComp [7] ⟨(sIt (sVar 6)), (.nm 7), bYes⟩ [] (sTup (aC (sVar 7) (aC (sCallL F__law_thing 0 (aC (sVar 1) (aC (sVar 3) (aC (sVar 4) (aC (sVar 5) aN))))) aN)))))]) aN)))))
noncomputable def F__law_scene : FnL := ofBodyL 2 m__law_scene
theorem S__law_scene : FnScope N__law_scene ["draws", "many", "things", "boxes", "far", "long"] (fnScope (top 33)) := C8.fnScope_by (by decide +kernel)
theorem ok__law_scene (x : Tx P w K mg base tabs) : Cal P w K mg base 4 "_law_scene" (dSpL ⟨P, w, K⟩ tabs 5 F__law_scene) [] := by
  obtain ⟨f, fd, cdv, D⟩ := x.f__law_scene
  refine cal_fnL (N := N__law_scene) (k := 3) D (fun _ _ _ _ _ _ us hl => match us, hl with | [_, _, _, _, _, _], _ => rfl) S__law_scene rfl rfl fun a A outer s H E hr => ?_
  refine pss_cD ?_ ?_
  · exact ps_setD S__law_scene.nd rfl (by first | exact Or.inl rfl | exact Or.inr rfl) (hLcn (by decide) hL0n) (pe_slD (pe_lstD (pa_cD pe_sD (pa_cD pe_sD (pa_cD pe_sD (pa_cD pe_sD (pa_cD pe_sD (pa_cD pe_sD pa_nD rfl) rfl) rfl) rfl) rfl) rfl)) rfl ⟨_, rfl, (pe_fnLD (ok__law_take x) hr (by decide) (by first | rfl | decide) (pv 0) (pa_cD (pe_opD op_addD (pv 2) pe_iD) pa_nD rfl) (len_C len_N) rfl)⟩) rfl (by first | exact Or.inl rfl | exact Or.inr rfl)
  refine pss_1D ?_
  exact ps_retD (pe_tupD (pa_cD (pe_varD (pv 1)) (pa_cD (pe_tD cr_tuple bt_tuple (by first | rfl | decide) x.b_tuple (POs.cons rfl (pe_lcN (own := [("name", 7)]) (LcOk.mk rfl S__law_scene.nd (pi_D (pe_varD (pv 6))) (blk_by (by kernel_rfl)) (fun _ _ _ _ _ => ⟨rfl, (pg_nm S__law_scene.nd rfl (by first | exact Or.inl rfl | exact Or.inr rfl) (by first | exact Or.inl rfl | exact Or.inr rfl) (hLcn (by decide) hL0n)), pts_nD⟩) (fun _ _ _ _ _ => ClIns.nil) (fun _ _ _ _ _ => (pe_tupD (pa_cD (pe_varD (pv 7)) (pa_cD (pe_fnLD (ok__law_thing x) hr (by decide) (by first | rfl | decide) (pv 0) (pa_cD (pe_varD (pv 1)) (pa_cD (pe_varD (pv 3)) (pa_cD (pe_varD (pv 4)) (pa_cD (pe_varD (pv 5)) pa_nD rfl) rfl) rfl) rfl) (len_C (len_C (len_C (len_C len_N)))) rfl) pa_nD rfl) rfl))) (fun _ => rfl) (show List.Nodup [7] from by decide) (show ∀ i ∈ ([7] : List Nat), i ∈ ([7] : List Nat) from by decide) (hLcm (by decide) hL0m))) POs.nil) rfl) pa_nD rfl) rfl))
def N__law_clash : List Str := ["one", "other", "k"]
noncomputable def m__law_clash : MS := (mRet (sOp2 pEq (.ex (sListComp [2] ⟨(sRange1 (aC (sN pLen2 [(.nm 0)]) aN)), (.nm 2), (bOr (bVal (sOp2 pGe (.ex (sOp2 pIx2 (.ex (sOp2 pIx2 (.nm 0) (.nm 2))) (.ex (sC (.int 0))))) (.ex (sOp2 pIx2 (.ex (sOp2 pIx2 (.nm 1) (.nm 2))) (.ex (sC (.int 1))))))) (bVal (sOp2 pGe (.ex (sOp2 pIx2 (.ex (sOp2 pIx2 (.nm 1) (.nm 2))) (.ex (sC (.int 0))))) (.ex (sOp2 pIx2 (.ex (sOp2 pIx2 (.nm 0) (.nm 2))) (.ex (sC (.int 1))))))))⟩ [] (sVar 2))) (.ex (sLst aN))))
noncomputable def F__law_clash : Fn := ofBody 1 m__law_clash
theorem S__law_clash : FnScope N__law_clash ["one", "other"] (fnScope (top 34)) := C8.fnScope_by (by decide +kernel)
theorem ok__law_clash (x : Tx P w K mg base tabs) : Cal P w K mg base 1 "_law_clash" (dSp ⟨P, w, K⟩ tabs 2 F__law_clash) [] := by
  obtain ⟨f, fd, cdv, D⟩ := x.f__law_clash
  refine cal_fn (N := N__law_clash) (k := 0) D (fun _ _ _ _ _ _ us hl => match us, hl with | [_, _], _ => rfl) S__law_clash rfl fun A outer s H E hr => ?_
  refine pss_1D ?_
  exact ps_retD (pe_cmpD (op_eqDD (Room.units hr)) (nomark _) (pe_lcN (own := [("k", 2)]) (LcOk.mk rfl S__law_clash.nd (pi_range1D (by first | rfl | decide) x.b_range (pa_cD (pe_bD cr_len2 bt_len (by first | rfl | decide) x.b_len (POs.cons rfl (pv 0) POs.nil) rfl) pa_nD rfl) rfl) (blk_by (by kernel_rfl)) (fun _ _ _ _ _ => ⟨rfl, (pg_nm S__law_clash.nd rfl (by first | exact Or.inl rfl | exact Or.inr rfl) (by first | exact Or.inl rfl | exact Or.inr rfl) hL0n), (pts_1D (PW.pt (pw_orD (pt_cmpD (op_geD (Room.units hr)) (nomark _) (pe_ixD (ix_D2 (Room.units hr)) (by intro _ _; rfl) (pe_ixD (ix_D2 (Room.units hr)) (by intro _ _; rfl) (pv 0) (pv 2)) pe_iD) (pe_ixD (ix_D2 (Room.units hr)) (by intro _ _; rfl) (pe_ixD (ix_D2 (Room.units hr)) (by intro _ _; rfl) (pv 1) (pv 2)) pe_iD)) (pw_or1D (pt_cmpD (op_geD (Room.units hr)) (nomark _) (pe_ixD (ix_D2 (Room.units hr)) (by intro _ _; rfl) (pe_ixD (ix_D2 (Room.units hr)) (by intro _ _; rfl) (pv 1) (pv 2)) pe_iD) (pe_ixD (ix_D2 (Room.units hr)) (by intro _ _; rfl) (pe_ixD (ix_D2 (Room.units hr)) (by intro _ _; rfl) (pv 0) (pv 2)) pe_iD))))))⟩) (fun _ _ _ _ _ => ClIns.nil) (fun _ _ _ _ _ => (pe_varD (pv 2))) (fun _ => rfl) (show List.Nodup [2] from by decide) (show ∀ i ∈ ([2] : List Nat), i ∈ ([2] : List Nat) from by decide) hL0m)) (pe_lstD pa_nD))
def N__law_still : List Str := ["scene", "found", "name", "thing"]
noncomputable def m__law_still : MS := (mSeq (mSet 1 (sLst aN)) (mSeq (mFor (sIt (sOp2 pIx2 (.nm 0) (.ex (sC (.int 1))))) (.tup [(.nm 2), (.nm 3)]) (mSet 1 (sOp2 pAdd (.nm 1) (.ex (sN pListC2 [(.nm 3)]))))) (mRetV 1)))
noncomputable def F__law_still : Fn := ofBody 3 m__law_still
theorem S__law_still : FnScope N__law_still ["scene"] (fnScope (top 35)) := C8.fnScope_by (by decide +kernel)
theorem ok__law_still (x : Tx P w K mg base tabs) : Cal P w K mg base 1 "_law_still" (dSp ⟨P, w, K⟩ tabs 1 F__law_still) [] := by
  obtain ⟨f, fd, cdv, D⟩ := x.f__law_still
  refine cal_fn (N := N__law_still) (k := 0) D (fun _ _ _ _ _ _ us hl => match us, hl with | [_], _ => rfl) S__law_still rfl fun A outer s H E hr => ?_
  refine pss_cD ?_ ?_
  · exact ps_setD S__law_still.nd rfl (by first | exact Or.inl rfl | exact Or.inr rfl) hL0n (pe_lstD pa_nD) rfl (by first | exact Or.inl rfl | exact Or.inr rfl)
  refine pss_cD ?_ ?_
  · refine ps_forD PassesOwn.never rfl (pi_D (pe_ixD (ix_D2 (Room.units hr)) (by intro _ _; rfl) (pv 0) pe_iD)) (pg_tp rfl rfl (pgs_c rfl (pg_nm S__law_still.nd rfl (by first | exact Or.inl rfl | exact Or.inr rfl) (by first | exact Or.inl rfl | exact Or.inr rfl) hL0n) (pgs_c rfl (pg_nm S__law_still.nd rfl (by first | exact Or.inl rfl | exact Or.inr rfl) (by first | exact Or.inl rfl | exact Or.inr rfl) hL0n) pgs_n)) rfl) ?_
    refine pss_1D ?_
    exact ps_setD S__law_still.nd rfl (by first | exact Or.inl rfl | exact Or.inr rfl) hL0n (pe_opD op_addD (pv 1) (pe_tD (cr_list2 rfl) bt_list (by first | rfl | decide) x.b_list (POs.cons rfl (pv 3) POs.nil) rfl)) rfl (by first | exact Or.inl rfl | exact Or.inr rfl)
  refine pss_1D ?_
  exact ps_retVD (pv 1) rfl
def N__law_barred : List Str := ["scene", "thing", "found", "wall", "k", "box"]
noncomputable def m__law_barred : MS := (mSeq (mSet 2 (sLst aN)) (mSeq (mFor (sIt (sCall F__law_still (aC (sVar 0) aN))) (.nm 3) (mSet 2 (sOp2 pAdd (.nm 2) (.ex (sListComp [5] ⟨(sIt (sVar 1)), (.nm 5), bYes⟩ [] (sN pTuple [(.ex (sListComp [4] ⟨(sRange1 (aC (sOp2 pIx2 (.nm 0) (.ex (sC (.int 0)))) aN)), (.nm 4), bYes⟩ [] (sTup (aC (sOp2 pSub (.ex (sOp2 pIx2 (.ex (sOp2 pIx2 (.nm 3) (.nm 4))) (.ex (sC (.int 0))))) (.ex (sOp2 pIx2 (.ex (sOp2 pIx2 (.nm 5) (.nm 4))) (.ex (sC (.int 1)))))) (aC (sOp2 pSub (.ex (sOp2 pIx2 (.ex (sOp2 pIx2 (.nm 3) (.nm 4))) (.ex (sC (.int 1))))) (.ex (sOp2 pIx2 (.ex (sOp2 pIx2 (.nm 5) (.nm 4))) (.ex (sC (.int 0)))))) aN)))))])))))) (mRetV 2)))
noncomputable def F__law_barred : Fn := ofBody 4 m__law_barred
theorem S__law_barred : FnScope N__law_barred ["scene", "thing"] (fnScope (top 36)) := C8.fnScope_by (by decide +kernel)
theorem ok__law_barred (x : Tx P w K mg base tabs) : Cal P w K mg base 2 "_law_barred" (dSp ⟨P, w, K⟩ tabs 2 F__law_barred) [] := by
  obtain ⟨f, fd, cdv, D⟩ := x.f__law_barred
  refine cal_fn (N := N__law_barred) (k := 1) D (fun _ _ _ _ _ _ us hl => match us, hl with | [_, _], _ => rfl) S__law_barred rfl fun A outer s H E hr => ?_
  refine pss_cD ?_ ?_
  · exact ps_setD S__law_barred.nd rfl (by first | exact Or.inl rfl | exact Or.inr rfl) hL0n (pe_lstD pa_nD) rfl (by first | exact Or.inl rfl | exact Or.inr rfl)
  refine pss_cD ?_ ?_
  · refine ps_forD PassesOwn.never rfl (pi_D (pe_fnD (ok__law_still x) hr (by decide) (by first | rfl | decide) (pa_cD (pe_varD (pv 0)) pa_nD rfl) rfl (len_C len_N) rfl)) (pg_nm S__law_barred.nd rfl (by first | exact Or.inl rfl | exact Or.inr rfl) (by first | exact Or.inl rfl | exact Or.inr rfl) hL0n) ?_
    refine pss_1D ?_
    exact ps_setD S__law_barred.nd rfl (by first | exact Or.inl rfl | exact Or.inr rfl) hL0n (pe_opD op_addD (pv 2) (pe_lcN (own := [("box", 5)]) (LcOk.mk rfl S__law_barred.nd (pi_D (pe_varD (pv 1))) (blk_by (by kernel_rfl)) (fun _ _ _ _ _ => ⟨rfl, (pg_nm S__law_barred.nd rfl (by first | exact Or.inl rfl | exact Or.inr rfl) (by first | exact Or.inl rfl | exact Or.inr rfl) hL0n), pts_nD⟩) (fun _ _ _ _ _ => ClIns.nil) (fun _ _ _ _ _ => (pe_tD cr_tuple bt_tuple (by first | rfl | decide) x.b_tuple (POs.cons rfl (pe_lcN (own := [("k", 4)]) (LcOk.mk rfl S__law_barred.nd (pi_range1D (by first | rfl | decide) x.b_range (pa_cD (pe_ixD (ix_D2 (Room.units hr)) (by intro _ _; rfl) (pv 0) pe_iD) pa_nD rfl) rfl) (blk_by (by kernel_rfl)) (fun _ _ _ _ _ => ⟨rfl, (pg_nm S__law_barred.nd rfl (by first | exact Or.inl rfl | exact Or.inr rfl) (by first | exact Or.inl rfl | exact Or.inr rfl) hL0n), pts_nD⟩) (fun _ _ _ _ _ => ClIns.nil) (fun _ _ _ _ _ => (pe_tupD (pa_cD (pe_opD op_subD (pe_ixD (ix_D2 (Room.units hr)) (by intro _ _; rfl) (pe_ixD (ix_D2 (Room.units hr)) (by intro _ _; rfl) (pv 3) (pv 4)) pe_iD) (pe_ixD (ix_D2 (Room.units hr)) (by intro _ _; rfl) (pe_ixD (ix_D2 (Room.units hr)) (by intro _ _; rfl) (pv 5) (pv 4)) pe_iD)) (pa_cD (pe_opD op_subD (pe_ixD (ix_D2 (Room.units hr)) (by intro _ _; rfl) (pe_ixD (ix_D2 (Room.units hr)) (by intro _ _; rfl) (pv 3) (pv 4)) pe_iD) (pe_ixD (ix_D2 (Room.units hr)) (by intro _ _; rfl) (pe_ixD (ix_D2 (Room.units hr)) (by intro _ _; rfl) (pv 5) (pv 4)) pe_iD)) pa_nD rfl) rfl))) (fun _ => rfl) (show List.Nodup [4] from by decide) (show ∀ i ∈ ([4] : List Nat), i ∈ ([4] : List Nat) from by decide) hL0m)) POs.nil) rfl)) (fun _ => rfl) (show List.Nodup [5] from by decide) (show ∀ i ∈ ([5] : List Nat), i ∈ ([5] : List Nat) from by decide) hL0m))) rfl (by first | exact Or.inl rfl | exact Or.inr rfl)
  refine pss_1D ?_
  exact ps_retVD (pv 2) rfl
def N__law_within : List Str := ["box", "place", "k"]
noncomputable def m__law_within : MS := (mRet (sOp2 pEq (.ex (sListComp [2] ⟨(sRange1 (aC (sN pLen2 [(.nm 0)]) aN)), (.nm 2), (bNot (bVal (sCh pLt pLt (.ex (sOp2 pIx2 (.ex (sOp2 pIx2 (.nm 0) (.nm 2))) (.ex (sC (.int 0))))) (.ex (sOp2 pIx2 (.nm 1) (.nm 2))) (.ex (sOp2 pIx2 (.ex (sOp2 pIx2 (.nm 0) (.nm 2))) (.ex (sC (.int 1))))))))⟩ [] (sVar 2))) (.ex (sLst aN))))
noncomputable def F__law_within : Fn := ofBody 1 m__law_within
theorem S__law_within : FnScope N__law_within ["box", "place"] (fnScope (top 37)) := C8.fnScope_by (by decide +kernel)
theorem ok__law_within (x : Tx P w K mg base tabs) : Cal P w K mg base 1 "_law_within" (dSp ⟨P, w, K⟩ tabs 2 F__law_within) [] := by
  obtain ⟨f, fd, cdv, D⟩ := x.f__law_within
  refine cal_fn (N := N__law_within) (k := 0) D (fun _ _ _ _ _ _ us hl => match us, hl with | [_, _], _ => rfl) S__law_within rfl fun A outer s H E hr => ?_
  refine pss_1D ?_
  exact ps_retD (pe_cmpD (op_eqDD (Room.units hr)) (nomark _) (pe_lcN (own := [("k", 2)]) (LcOk.mk rfl S__law_within.nd (pi_range1D (by first | rfl | decide) x.b_range (pa_cD (pe_bD cr_len2 bt_len (by first | rfl | decide) x.b_len (POs.cons rfl (pv 0) POs.nil) rfl) pa_nD rfl) rfl) (blk_by (by kernel_rfl)) (fun _ _ _ _ _ => ⟨rfl, (pg_nm S__law_within.nd rfl (by first | exact Or.inl rfl | exact Or.inr rfl) (by first | exact Or.inl rfl | exact Or.inr rfl) hL0n), (pts_1D (pt_notD (pt_chD (op_ltD (Room.units hr)) (op_ltD (Room.units hr)) (by with_unfolding_all rfl) (pe_ixD (ix_D2 (Room.units hr)) (by intro _ _; rfl) (pe_ixD (ix_D2 (Room.units hr)) (by intro _ _; rfl) (pv 0) (pv 2)) pe_iD) (pe_ixD (ix_D2 (Room.units hr)) (by intro _ _; rfl) (pv 1) (pv 2)) (pe_ixD (ix_D2 (Room.units hr)) (by intro _ _; rfl) (pe_ixD (ix_D2 (Room.units hr)) (by intro _ _; rfl) (pv 0) (pv 2)) pe_iD))))⟩) (fun _ _ _ _ _ => ClIns.nil) (fun _ _ _ _ _ => (pe_varD (pv 2))) (fun _ => rfl) (show List.Nodup [2] from by decide) (show ∀ i ∈ ([2] : List Nat), i ∈ ([2] : List Nat) from by decide) hL0m)) (pe_lstD pa_nD))
def N__law_clear : List Str := ["barred", "place", "box"]
noncomputable def m__law_clear : MS := (mRet (sOp2 pEq (.ex (sListComp [2] ⟨(sIt (sVar 0)), (.nm 2), (bTru (.ex (sCall F__law_within (aC (sVar 2) (aC (sVar 1) aN)))))⟩ [] (sVar 2))) (.ex (sLst aN))))
noncomputable def F__law_clear : Fn := ofBody 1 m__law_clear
theorem S__law_clear : FnScope N__law_clear ["barred", "place"] (fnScope (top 38)) := C8.fnScope_by (by decide +kernel)
theorem ok__law_clear (x : Tx P w K mg base tabs) : Cal P w K mg base 2 "_law_clear" (dSp ⟨P, w, K⟩ tabs 2 F__law_clear) [] := by
  obtain ⟨f, fd, cdv, D⟩ := x.f__law_clear
  refine cal_fn (N := N__law_clear) (k := 1) D (fun _ _ _ _ _ _ us hl => match us, hl with | [_, _], _ => rfl) S__law_clear rfl fun A outer s H E hr => ?_
  refine pss_1D ?_
  exact ps_retD (pe_cmpD (op_eqDD (Room.units hr)) (nomark _) (pe_lcN (own := [("box", 2)]) (LcOk.mk rfl S__law_clear.nd (pi_D (pe_varD (pv 0))) (blk_by (by kernel_rfl)) (fun _ _ _ _ _ => ⟨rfl, (pg_nm S__law_clear.nd rfl (by first | exact Or.inl rfl | exact Or.inr rfl) (by first | exact Or.inl rfl | exact Or.inr rfl) hL0n), (pts_1D (pt_truD (pe_fnD (ok__law_within x) hr (by decide) (by first | rfl | decide) (pa_cD (pe_varD (pv 2)) (pa_cD (pe_varD (pv 1)) pa_nD rfl) rfl) rfl (len_C (len_C len_N)) rfl)))⟩) (fun _ _ _ _ _ => ClIns.nil) (fun _ _ _ _ _ => (pe_varD (pv 2))) (fun _ => rfl) (show List.Nodup [2] from by decide) (show ∀ i ∈ ([2] : List Nat), i ∈ ([2] : List Nat) from by decide) hL0m)) (pe_lstD pa_nD))
def N__law_told : List Str := ["which", "scene", "thing", "place", "e"]
noncomputable def m__law_told : MS := (mTry 4 [("Malformed", some "form")] (mSeq (mIf (bVal (sOp2 pEq (.nm 0) (.ex (sC (.int 0))))) (mRet (sCallX F_barred_boxes (aC (sVar 1) (aC (sVar 2) aN)))) mNext) (mRet (sIf (bVal (sOp2 pEq (.nm 0) (.ex (sC (.int 1))))) (sCallX F_is_clear (aC (sVar 1) (aC (sVar 2) (aC (sVar 3) aN)))) (sCallX F_is_way (aC (sVar 1) (aC (sVar 2) (aC (sVar 3) aN))))))))
noncomputable def F__law_told : Fn := ofBody 1 m__law_told
theorem S__law_told : FnScope N__law_told ["which", "scene", "thing", "place"] (fnScope (top 39)) := C8.fnScope_by (by decide +kernel)
theorem ok__law_told (x : Tx P w K mg base tabs) : Cal P w K mg base 17 "_law_told" (dSp ⟨P, w, K⟩ tabs 4 F__law_told) [] := by
  obtain ⟨f, fd, cdv, D⟩ := x.f__law_told
  obtain ⟨_, e_SlideError⟩ := x.e_SlideError
  obtain ⟨_, e_Malformed⟩ := x.e_Malformed
  refine cal_fn (N := N__law_told) (k := 16) D (fun _ _ _ _ _ _ us hl => match us, hl with | [_, _, _, _], _ => rfl) S__law_told rfl fun A outer s H E hr => ?_
  refine pss_1D ?_
  refine ps_try0D rfl rfl S__law_told.nd rfl rfl ⟨(by first | rfl | decide), rfl, .inl e_SlideError.g⟩  (fun _ _ _ tk2 po2 => ?_) (al_cons (fun C hC => x.m_Malformed_SlideError C _ hC e_SlideError.g) al_nil) (al_cons (fun C z a oe pn hC hz hZ hf => by cases hz; exact (su_if (x.c_Malformed C hC) hZ hf rfl (by first | exact Or.inl rfl | exact Or.inr (Or.inl rfl) | exact Or.inr (Or.inr rfl)) rfl rfl (by first | rfl | decide) x.b_isinstance (by first | rfl | decide) e_Malformed.g rfl (x.i_Malformed_Malformed C _ hC e_Malformed.g) su_const su_const rfl)) al_nil)
  refine pss_cD ?_ ?_
  · refine ps_ifD (pt_cmpD (op_eqDD (Room.units hr)) (nomark _) (pv 0) pe_iD) ?_ ?_
    · refine pss_1D ?_
      exact ps_retD (pe_fnX (ok_barred_boxes x) hr (by decide) tk2 (by first | rfl | decide) (pa_cD (pe_varD (pv 1)) (pa_cD (pe_varD (pv 2)) pa_nD rfl) rfl) rfl (len_C (len_C len_N)) rfl)
    · exact pss_nD
  refine pss_1D ?_
  exact ps_retD (pe_ifD (pt_cmpD (op_eqDD (Room.units hr)) (nomark _) (pv 0) pe_iD) (pe_fnX (ok_is_clear x) hr (by decide) tk2 (by first | rfl | decide) (pa_cD (pe_varD (pv 1)) (pa_cD (pe_varD (pv 2)) (pa_cD (pe_varD (pv 3)) pa_nD rfl) rfl) rfl) rfl (len_C (len_C (len_C len_N))) rfl) (pe_fnX (ok_is_way x) hr (by decide) tk2 (by first | rfl | decide) (pa_cD (pe_varD (pv 1)) (pa_cD (pe_varD (pv 2)) (pa_cD (pe_varD (pv 3)) pa_nD rfl) rfl) rfl) rfl (len_C (len_C (len_C len_N))) rfl))
def N__law_stands : List Str := ["scene", "thing", "place", "box", "moved", "k", "wall"]
noncomputable def m__law_stands : MS := (mSeq (mFor (sIt (sVar 1)) (.nm 3) (mSeq (mSet 4 (sN pTuple [(.ex (sListComp [5] ⟨(sRange1 (aC (sOp2 pIx2 (.nm 0) (.ex (sC (.int 0)))) aN)), (.nm 5), bYes⟩ [] (sTup (aC (sOp2 pAdd (.ex (sOp2 pIx2 (.ex (sOp2 pIx2 (.nm 3) (.nm 5))) (.ex (sC (.int 0))))) (.ex (sOp2 pIx2 (.nm 2) (.nm 5)))) (aC (sOp2 pAdd (.ex (sOp2 pIx2 (.ex (sOp2 pIx2 (.nm 3) (.nm 5))) (.ex (sC (.int 1))))) (.ex (sOp2 pIx2 (.nm 2) (.nm 5)))) aN)))))])) (mIf (bVal (sOp2 pNe (.ex (sListComp [6] ⟨(sIt (sCall F__law_still (aC (sVar 0) aN))), (.nm 6), (bTru (.ex (sCall F__law_clash (aC (sVar 4) (aC (sVar 6) aN)))))⟩ [] (sVar 6))) (.ex (sLst aN)))) (mRet (sC (.bool false))) mNext))) (mRet (sC (.bool true))))
noncomputable def F__law_stands : Fn := ofBody 4 m__law_stands
theorem S__law_stands : FnScope N__law_stands ["scene", "thing", "place"] (fnScope (top 40)) := C8.fnScope_by (by decide +kernel)
theorem ok__law_stands (x : Tx P w K mg base tabs) : Cal P w K mg base 2 "_law_stands" (dSp ⟨P, w, K⟩ tabs 3 F__law_stands) [] := by
  obtain ⟨f, fd, cdv, D⟩ := x.f__law_stands
  refine cal_fn (N := N__law_stands) (k := 1) D (fun _ _ _ _ _ _ us hl => match us, hl with | [_, _, _], _ => rfl) S__law_stands rfl fun A outer s H E hr => ?_
  refine pss_cD ?_ ?_
  · refine ps_forD PassesOwn.never rfl (pi_D (pe_varD (pv 1))) (pg_nm S__law_stands.nd rfl (by first | exact Or.inl rfl | exact Or.inr rfl) (by first | exact Or.inl rfl | exact Or.inr rfl) hL0n) ?_
    refine pss_cD ?_ ?_
    · exact ps_setD S__law_stands.nd rfl (by first | exact Or.inl rfl | exact Or.inr rfl) hL0n (pe_tD cr_tuple bt_tuple (by first | rfl | decide) x.b_tuple (POs.cons rfl (pe_lcN (own := [("k", 5)]) (LcOk.mk rfl S__law_stands.nd (pi_range1D (by first | rfl | decide) x.b_range (pa_cD (pe_ixD (ix_D2 (Room.units hr)) (by intro _ _; rfl) (pv 0) pe_iD) pa_nD rfl) rfl) (blk_by (by kernel_rfl)) (fun _ _ _ _ _ => ⟨rfl, (pg_nm S__law_stands.nd rfl (by first | exact Or.inl rfl | exact Or.inr rfl) (by first | exact Or.inl rfl | exact Or.inr rfl) hL0n), pts_nD⟩) (fun _ _ _ _ _ => ClIns.nil) (fun _ _ _ _ _ => (pe_tupD (pa_cD (pe_opD op_addD (pe_ixD (ix_D2 (Room.units hr)) (by intro _ _; rfl) (pe_ixD (ix_D2 (Room.units hr)) (by intro _ _; rfl) (pv 3) (pv 5)) pe_iD) (pe_ixD (ix_D2 (Room.units hr)) (by intro _ _; rfl) (pv 2) (pv 5))) (pa_cD (pe_opD op_addD (pe_ixD (ix_D2 (Room.units hr)) (by intro _ _; rfl) (pe_ixD (ix_D2 (Room.units hr)) (by intro _ _; rfl) (pv 3) (pv 5)) pe_iD) (pe_ixD (ix_D2 (Room.units hr)) (by intro _ _; rfl) (pv 2) (pv 5))) pa_nD rfl) rfl))) (fun _ => rfl) (show List.Nodup [5] from by decide) (show ∀ i ∈ ([5] : List Nat), i ∈ ([5] : List Nat) from by decide) hL0m)) POs.nil) rfl) rfl (by first | exact Or.inl rfl | exact Or.inr rfl)
    refine pss_1D ?_
    refine ps_ifD (pt_cmpD (op_neDD (Room.units hr)) (nomark _) (pe_lcN (own := [("wall", 6)]) (LcOk.mk rfl S__law_stands.nd (pi_D (pe_fnD (ok__law_still x) hr (by decide) (by first | rfl | decide) (pa_cD (pe_varD (pv 0)) pa_nD rfl) rfl (len_C len_N) rfl)) (blk_by (by kernel_rfl)) (fun _ _ _ _ _ => ⟨rfl, (pg_nm S__law_stands.nd rfl (by first | exact Or.inl rfl | exact Or.inr rfl) (by first | exact Or.inl rfl | exact Or.inr rfl) hL0n), (pts_1D (pt_truD (pe_fnD (ok__law_clash x) hr (by decide) (by first | rfl | decide) (pa_cD (pe_varD (pv 4)) (pa_cD (pe_varD (pv 6)) pa_nD rfl) rfl) rfl (len_C (len_C len_N)) rfl)))⟩) (fun _ _ _ _ _ => ClIns.nil) (fun _ _ _ _ _ => (pe_varD (pv 6))) (fun _ => rfl) (show List.Nodup [6] from by decide) (show ∀ i ∈ ([6] : List Nat), i ∈ ([6] : List Nat) from by decide) hL0m)) (pe_lstD pa_nD)) ?_ ?_
    · refine pss_1D ?_
      exact ps_retD pe_bD'
    · exact pss_nD
  refine pss_1D ?_
  exact ps_retD pe_bD'
def N__law_shift : List Str := ["barred", "one", "other", "axes", "k", "axis", "step", "place", "here", "low", "high", "box"]
noncomputable def m__law_shift : MS := (mSeq (mSet 3 (sListComp [4] ⟨(sRange1 (aC (sN pLen2 [(.nm 1)]) aN)), (.nm 4), (bVal (sOp2 pNe (.ex (sOp2 pIx2 (.nm 1) (.nm 4))) (.ex (sOp2 pIx2 (.nm 2) (.nm 4)))))⟩ [] (sVar 4))) (mSeq (mIf (bVal (sOp2 pNe (.ex (sN pLen2 [(.nm 3)])) (.ex (sC (.int 1))))) (mRet (sC (.bool false))) mNext) (mSeq (mSet 5 (sOp2 pIx2 (.nm 3) (.ex (sC (.int 0))))) (mSeq (mFor (sRange2 (aC (sOp2 pRep (.ex (sC (.int 2))) (.ex (sN pMin [(.ex (sOp2 pIx2 (.nm 1) (.nm 5))), (.ex (sOp2 pIx2 (.nm 2) (.nm 5)))]))) (aC (sOp2 pAdd (.ex (sOp2 pRep (.ex (sC (.int 2))) (.ex (sN pMax [(.ex (sOp2 pIx2 (.nm 1) (.nm 5))), (.ex (sOp2 pIx2 (.nm 2) (.nm 5)))])))) (.ex (sC (.int 1)))) aN))) (.nm 6) (mSeq (mSet 7 (sOp2 pAdd (.ex (sOp2 pAdd (.ex (sN pTuple [(.ex (sListComp [8] ⟨(sIt (sSl (.nm 1) .no (.ex (sVar 5)))), (.nm 8), bYes⟩ [] (sOp2 pRep (.ex (sC (.int 2))) (.nm 8))))])) (.ex (sTup (aC (sVar 6) aN))))) (.ex (sN pTuple [(.ex (sListComp [8] ⟨(sIt (sSl (.nm 1) (.ex (sOp2 pAdd (.nm 5) (.ex (sC (.int 1))))) .no)), (.nm 8), bYes⟩ [] (sOp2 pRep (.ex (sC (.int 2))) (.nm 8))))])))) (mIf (bNot (bTru (.ex (sCall F__law_clear (aC (sListComp [11] ⟨(sIt (sVar 0)), (.nm 11), bYes⟩ [] (sN pTuple [(.ex (sListComp [9, 10] ⟨(sIt (sVar 11)), (.tup [(.nm 9), (.nm 10)]), bYes⟩ [] (sTup (aC (sOp2 pRep (.ex (sC (.int 2))) (.nm 9)) (aC (sOp2 pRep (.ex (sC (.int 2))) (.nm 10)) aN)))))])) (aC (sVar 7) aN)))))) (mRet (sC (.bool false))) mNext))) (mRet (sC (.bool true)))))))
noncomputable def F__law_shift : Fn := ofBody 9 m__law_shift
theorem S__law_shift : FnScope N__law_shift ["barred", "one", "other"] (fnScope (top 41)) := C8.fnScope_by (by decide +kernel)
theorem ok__law_shift (x : Tx P w K mg base tabs) : Cal P w K mg base 3 "_law_shift" (dSp ⟨P, w, K⟩ tabs 3 F__law_shift) [] := by
  obtain ⟨f, fd, cdv, D⟩ := x.f__law_shift
  refine cal_fn (N := N__law_shift) (k := 2) D (fun _ _ _ _ _ _ us hl => match us, hl with | [_, _, _], _ => rfl) S__law_shift rfl fun A outer s H E hr => ?_
  refine pss_cD ?_ ?_
  · first | exact ps_setD' rfl hL0n (ps_lcN (own := [("k", 4)]) (LcOk.mk rfl S__law_shift.nd (pi_range1D (by first | rfl | decide) x.b_range (pa_cD (pe_bD cr_len2 bt_len (by first | rfl | decide) x.b_len (POs.cons rfl (pv 1) POs.nil) rfl) pa_nD rfl) rfl) (blk_by (by kernel_rfl)) (fun _ _ _ _ _ => ⟨rfl, (pg_nm S__law_shift.nd rfl (by first | exact Or.inl rfl | exact Or.inr rfl) (by first | exact Or.inl rfl | exact Or.inr rfl) hL0n), (pts_1D (pt_cmpD (op_neDD (Room.units hr)) (nomark _) (pe_ixD (ix_D2 (Room.units hr)) (by intro _ _; rfl) (pv 1) (pv 4)) (pe_ixD (ix_D2 (Room.units hr)) (by intro _ _; rfl) (pv 2) (pv 4))))⟩) (fun _ _ _ _ _ => ClIns.nil) (fun _ _ _ _ _ => (pe_varD (pv 4))) (fun _ => rfl) (show List.Nodup [4] from by decide) (show ∀ i ∈ ([4] : List Nat), i ∈ ([4] : List Nat) from by decide) hL0m) rfl rfl rfl) | exact ps_setD S__law_shift.nd rfl (by first | exact Or.inl rfl | exact Or.inr rfl) hL0n (pe_lcN (own := [("k", 4)]) (LcOk.mk rfl S__law_shift.nd (pi_range1D (by first | rfl | decide) x.b_range (pa_cD (pe_bD cr_len2 bt_len (by first | rfl | decide) x.b_len (POs.cons rfl (pv 1) POs.nil) rfl) pa_nD rfl) rfl) (blk_by (by kernel_rfl)) (fun _ _ _ _ _ => ⟨rfl, (pg_nm S__law_shift.nd rfl (by first | exact Or.inl rfl | exact Or.inr rfl) (by first | exact Or.inl rfl | exact Or.inr rfl) hL0n), (pts_1D (pt_cmpD (op_neDD (Room.units hr)) (nomark _) (pe_ixD (ix_D2 (Room.units hr)) (by intro _ _; rfl) (pv 1) (pv 4)) (pe_ixD (ix_D2 (Room.units hr)) (by intro _ _; rfl) (pv 2) (pv 4))))⟩) (fun _ _ _ _ _ => ClIns.nil) (fun _ _ _ _ _ => (pe_varD (pv 4))) (fun _ => rfl) (show List.Nodup [4] from by decide) (show ∀ i ∈ ([4] : List Nat), i ∈ ([4] : List Nat) from by decide) hL0m)) rfl (by first | exact Or.inl rfl | exact Or.inr rfl)
  refine pss_cD ?_ ?_
  · refine ps_ifD (pt_cmpD (op_neDD (Room.units hr)) (nomark _) (pe_bD cr_len2 bt_len (by first | rfl | decide) x.b_len (POs.cons rfl (pv 3) POs.nil) rfl) pe_iD) ?_ ?_
    · refine pss_1D ?_
      exact ps_retD pe_bD'
    · exact pss_nD
  refine pss_cD ?_ ?_
  · exact ps_setD S__law_shift.nd rfl (by first | exact Or.inl rfl | exact Or.inr rfl) hL0n (pe_ixD (ix_D2 (Room.units hr)) (by intro _ _; rfl) (pv 3) pe_iD) rfl (by first | exact Or.inl rfl | exact Or.inr rfl)
  refine pss_cD ?_ ?_
  · refine ps_forD PassesOwn.never rfl (pi_range2D (by first | rfl | decide) x.b_range (pa_cD (pe_opD op_mulD pe_iD (pe_bD (cr_minD rfl) bt_min (by first | rfl | decide) x.b_min (POs.cons rfl (pe_ixD (ix_D2 (Room.units hr)) (by intro _ _; rfl) (pv 1) (pv 5)) (POs.cons rfl (pe_ixD (ix_D2 (Room.units hr)) (by intro _ _; rfl) (pv 2) (pv 5)) POs.nil)) rfl)) (pa_cD (pe_opD op_addD (pe_opD op_mulD pe_iD (pe_bD (cr_maxD rfl) bt_max (by first | rfl | decide) x.b_max (POs.cons rfl (pe_ixD (ix_D2 (Room.units hr)) (by intro _ _; rfl) (pv 1) (pv 5)) (POs.cons rfl (pe_ixD (ix_D2 (Room.units hr)) (by intro _ _; rfl) (pv 2) (pv 5)) POs.nil)) rfl)) pe_iD) pa_nD rfl) rfl) rfl rfl) (pg_nm S__law_shift.nd rfl (by first | exact Or.inl rfl | exact Or.inr rfl) (by first | exact Or.inl rfl | exact Or.inr rfl) hL0n) ?_
    refine pss_cD ?_ ?_
    · exact ps_setD S__law_shift.nd rfl (by first | exact Or.inl rfl | exact Or.inr rfl) hL0n (pe_opD op_addD (pe_opD op_addD (pe_tD cr_tuple bt_tuple (by first | rfl | decide) x.b_tuple (POs.cons rfl (pe_lcN (own := [("here", 8)]) (LcOk.mk rfl S__law_shift.nd (pi_D (pe_slD (pv 1) rfl ⟨_, rfl, (pe_varD (pv 5))⟩)) (blk_by (by kernel_rfl)) (fun _ _ _ _ _ => ⟨rfl, (pg_nm S__law_shift.nd rfl (by first | exact Or.inl rfl | exact Or.inr rfl) (by first | exact Or.inl rfl | exact Or.inr rfl) hL0n), pts_nD⟩) (fun _ _ _ _ _ => ClIns.nil) (fun _ _ _ _ _ => (pe_opD op_mulD pe_iD (pv 8))) (fun _ => rfl) (show List.Nodup [8] from by decide) (show ∀ i ∈ ([8] : List Nat), i ∈ ([8] : List Nat) from by decide) hL0m)) POs.nil) rfl) (pe_tupD (pa_cD (pe_varD (pv 6)) pa_nD rfl))) (pe_tD cr_tuple bt_tuple (by first | rfl | decide) x.b_tuple (POs.cons rfl (pe_lcN (own := [("here", 8)]) (LcOk.mk rfl S__law_shift.nd (pi_D (pe_slD (pv 1) ⟨_, rfl, (pe_opD op_addD (pv 5) pe_iD)⟩ rfl)) (blk_by (by kernel_rfl)) (fun _ _ _ _ _ => ⟨rfl, (pg_nm S__law_shift.nd rfl (by first | exact Or.inl rfl | exact Or.inr rfl) (by first | exact Or.inl rfl | exact Or.inr rfl) hL0n), pts_nD⟩) (fun _ _ _ _ _ => ClIns.nil) (fun _ _ _ _ _ => (pe_opD op_mulD pe_iD (pv 8))) (fun _ => rfl) (show List.Nodup [8] from by decide) (show ∀ i ∈ ([8] : List Nat), i ∈ ([8] : List Nat) from by decide) hL0m)) POs.nil) rfl)) rfl (by first | exact Or.inl rfl | exact Or.inr rfl)
    refine pss_1D ?_
    refine ps_ifD (pt_notD (pt_truD (pe_fnD (ok__law_clear x) hr (by decide) (by first | rfl | decide) (pa_cD (pe_lcN (own := [("box", 11)]) (LcOk.mk rfl S__law_shift.nd (pi_D (pe_varD (pv 0))) (blk_by (by kernel_rfl)) (fun _ _ _ _ _ => ⟨rfl, (pg_nm S__law_shift.nd rfl (by first | exact Or.inl rfl | exact Or.inr rfl) (by first | exact Or.inl rfl | exact Or.inr rfl) hL0n), pts_nD⟩) (fun _ _ _ _ _ => ClIns.nil) (fun _ _ _ _ _ => (pe_tD cr_tuple bt_tuple (by first | rfl | decide) x.b_tuple (POs.cons rfl (pe_lcN (own := [("low", 9), ("high", 10)]) (LcOk.mk rfl S__law_shift.nd (pi_D (pe_varD (pv 11))) (blk_by (by kernel_rfl)) (fun _ _ _ _ _ => ⟨rfl, (pg_tp rfl rfl (pgs_c rfl (pg_nm S__law_shift.nd rfl (by first | exact Or.inl rfl | exact Or.inr rfl) (by first | exact Or.inl rfl | exact Or.inr rfl) hL0n) (pgs_c rfl (pg_nm S__law_shift.nd rfl (by first | exact Or.inl rfl | exact Or.inr rfl) (by first | exact Or.inl rfl | exact Or.inr rfl) hL0n) pgs_n)) rfl), pts_nD⟩) (fun _ _ _ _ _ => ClIns.nil) (fun _ _ _ _ _ => (pe_tupD (pa_cD (pe_opD op_mulD pe_iD (pv 9)) (pa_cD (pe_opD op_mulD pe_iD (pv 10)) pa_nD rfl) rfl))) (fun _ => rfl) (show List.Nodup [9, 10] from by decide) (show ∀ i ∈ ([9, 10] : List Nat), i ∈ ([9, 10] : List Nat) from by decide) hL0m)) POs.nil) rfl)) (fun _ => rfl) (show List.Nodup [11] from by decide) (show ∀ i ∈ ([11] : List Nat), i ∈ ([11] : List Nat) from by decide) hL0m)) (pa_cD (pe_varD (pv 7)) pa_nD rfl) rfl) rfl (len_C (len_C len_N)) rfl))) ?_ ?_
    · refine pss_1D ?_
      exact ps_retD pe_bD'
    · exact pss_nD
  refine pss_1D ?_
  exact ps_retD pe_bD'
def N__law_way : List Str := ["barred", "many", "value", "place", "step", "k"]
noncomputable def m__law_way : MS := (mSeq (mIf (bOr (bNot (bTru (.ex (sOp1 (pIsi "tuple") (.nm 2))))) (bVal (sOp2 pEq (.nm 2) (.ex (sTup aN))))) (mRet (sC (.bool false))) mNext) (mSeq (mFor (sIt (sVar 2)) (.nm 3) (mIf (bOr (bNot (bTru (.ex (sOp1 (pIsi "tuple") (.nm 3))))) (bOr (bVal (sOp2 pNe (.ex (sN pLen2 [(.nm 3)])) (.nm 1))) (bVal (sOp2 pNe (.ex (sListComp [4] ⟨(sIt (sVar 3)), (.nm 4), (bOr (bTru (.ex (sOp1 (pIsi "bool") (.nm 4)))) (bOr (bNot (bTru (.ex (sOp1 (pIsi "int") (.nm 4))))) (bVal (sOp2 pGt (.ex (sN pAbs [(.nm 4)])) (.ex (sC (.int 4000)))))))⟩ [] (sVar 4))) (.ex (sLst aN)))))) (mRet (sC (.bool false))) mNext)) (mRet (sAnd (sCall F__law_clear (aC (sVar 0) (aC (sOp2 pIx2 (.nm 2) (.ex (sC (.int 0)))) aN))) (sOp2 pEq (.ex (sListComp [5] ⟨(sRange2 (aC (sC (.int 1)) (aC (sN pLen2 [(.nm 2)]) aN))), (.nm 5), (bNot (bTru (.ex (sCall F__law_shift (aC (sVar 0) (aC (sOp2 pIx2 (.nm 2) (.ex (sOp2 pSub (.nm 5) (.ex (sC (.int 1)))))) (aC (sOp2 pIx2 (.nm 2) (.nm 5)) aN)))))))⟩ [] (sVar 5))) (.ex (sLst aN)))))))
noncomputable def F__law_way : Fn := ofBody 3 m__law_way
theorem S__law_way : FnScope N__law_way ["barred", "many", "value"] (fnScope (top 42)) := C8.fnScope_by (by decide +kernel)
theorem ok__law_way (x : Tx P w K mg base tabs) : Cal P w K mg base 4 "_law_way" (dSp ⟨P, w, K⟩ tabs 3 F__law_way) [] := by
  obtain ⟨f, fd, cdv, D⟩ := x.f__law_way
  refine cal_fn (N := N__law_way) (k := 3) D (fun _ _ _ _ _ _ us hl => match us, hl with | [_, _, _], _ => rfl) S__law_way rfl fun A outer s H E hr => ?_
  refine pss_cD ?_ ?_
  · refine ps_ifD (PW.pt (pw_orD (pt_notD (pt_truD (pe_isiD (by first | rfl | decide) x.b_isinstance (by first | rfl | decide) x.b_tuple bt_tuple rfl (pv 2)))) (pw_or1D (pt_cmpD (op_eqDD (Room.units hr)) (nomark _) (pv 2) (pe_tupD pa_nD))))) ?_ ?_
    · refine pss_1D ?_
      exact ps_retD pe_bD'
    · exact pss_nD
  refine pss_cD ?_ ?_
  · refine ps_forD PassesOwn.never rfl (pi_D (pe_varD (pv 2))) (pg_nm S__law_way.nd rfl (by first | exact Or.inl rfl | exact Or.inr rfl) (by first | exact Or.inl rfl | exact Or.inr rfl) hL0n) ?_
    refine pss_1D ?_
    refine ps_ifD (PW.pt (pw_orD (pt_notD (pt_truD (pe_isiD (by first | rfl | decide) x.b_isinstance (by first | rfl | decide) x.b_tuple bt_tuple rfl (pv 3)))) (pw_orD (pt_cmpD (op_neDD (Room.units hr)) (nomark _) (pe_bD cr_len2 bt_len (by first | rfl | decide) x.b_len (POs.cons rfl (pv 3) POs.nil) rfl) (pv 1)) (pw_or1D (pt_cmpD (op_neDD (Room.units hr)) (nomark _) (pe_lcN (own := [("step", 4)]) (LcOk.mk rfl S__law_way.nd (pi_D (pe_varD (pv 3))) (blk_by (by kernel_rfl)) (fun _ _ _ _ _ => ⟨rfl, (pg_nm S__law_way.nd rfl (by first | exact Or.inl rfl | exact Or.inr rfl) (by first | exact Or.inl rfl | exact Or.inr rfl) hL0n), (pts_1D (PW.pt (pw_orD (pt_truD (pe_isiD (by first | rfl | decide) x.b_isinstance (by first | rfl | decide) x.b_bool bt_bool rfl (pv 4))) (pw_orD (pt_notD (pt_truD (pe_isiD (by first | rfl | decide) x.b_isinstance (by first | rfl | decide) x.b_int bt_int rfl (pv 4)))) (pw_or1D (pt_cmpD (op_gtD (Room.units hr)) (nomark _) (pe_bD cr_abs bt_abs (by first | rfl | decide) x.b_abs (POs.cons rfl (pv 4) POs.nil) rfl) pe_iD))))))⟩) (fun _ _ _ _ _ => ClIns.nil) (fun _ _ _ _ _ => (pe_varD (pv 4))) (fun _ => rfl) (show List.Nodup [4] from by decide) (show ∀ i ∈ ([4] : List Nat), i ∈ ([4] : List Nat) from by decide) hL0m)) (pe_lstD pa_nD)))))) ?_ ?_
    · refine pss_1D ?_
      exact ps_retD pe_bD'
    · exact pss_nD
  refine pss_1D ?_
  exact ps_retD (pe_andD (pe_fnD (ok__law_clear x) hr (by decide) (by first | rfl | decide) (pa_cD (pe_varD (pv 0)) (pa_cD (pe_ixD (ix_D2 (Room.units hr)) (by intro _ _; rfl) (pv 2) pe_iD) pa_nD rfl) rfl) rfl (len_C (len_C len_N)) rfl) (pe_one (pe_cmpD (op_eqDD (Room.units hr)) (nomark _) (pe_lcN (own := [("k", 5)]) (LcOk.mk rfl S__law_way.nd (pi_range2D (by first | rfl | decide) x.b_range (pa_cD pe_iD (pa_cD (pe_bD cr_len2 bt_len (by first | rfl | decide) x.b_len (POs.cons rfl (pv 2) POs.nil) rfl) pa_nD rfl) rfl) rfl rfl) (blk_by (by kernel_rfl)) (fun _ _ _ _ _ => ⟨rfl, (pg_nm S__law_way.nd rfl (by first | exact Or.inl rfl | exact Or.inr rfl) (by first | exact Or.inl rfl | exact Or.inr rfl) hL0n), (pts_1D (pt_notD (pt_truD (pe_fnD (ok__law_shift x) hr (by decide) (by first | rfl | decide) (pa_cD (pe_varD (pv 0)) (pa_cD (pe_ixD (ix_D2 (Room.units hr)) (by intro _ _; rfl) (pv 2) (pe_opD op_subD (pv 5) pe_iD)) (pa_cD (pe_ixD (ix_D2 (Room.units hr)) (by intro _ _; rfl) (pv 2) (pv 5)) pa_nD rfl) rfl) rfl) rfl (len_C (len_C (len_C len_N))) rfl))))⟩) (fun _ _ _ _ _ => ClIns.nil) (fun _ _ _ _ _ => (pe_varD (pv 5))) (fun _ => rfl) (show List.Nodup [5] from by decide) (show ∀ i ∈ ([5] : List Nat), i ∈ ([5] : List Nat) from by decide) hL0m)) (pe_lstD pa_nD))))
def N_law : List Str := ["script", "draws", "turn", "many", "scene", "thing", "barred", "step", "place", "axis", "box", "low", "high", "clear", "way", "far", "there", "good", "j", "k", "row", "bent", "value", "odd"]
noncomputable def m_law : MS := (mSeq (mSet 1 (sCall F__law_draws (aC (sVar 0) aN))) (mSeq (mFor (sRange1 (aC (sC (.int 5)) aN)) (.nm 2) (mSeq (mSet 3 (sOp2 pAdd (.ex (sC (.int 2))) (.ex (sCallL F__law_take 1 (aC (sC (.int 2)) aN))))) (mSeq (mAsg (.tup [(.nm 4), (.nm 5)]) (sTup (aC (sCallL F__law_scene 1 (aC (sVar 3) (aC (sC (.int 4)) (aC (sC (.int 2)) (aC (sC (.int 4)) (aC (sC (.int 3)) aN)))))) (aC (sCallL F__law_thing 1 (aC (sVar 3) (aC (sC (.int 3)) (aC (sC (.int 2)) (aC (sC (.int 2)) aN))))) aN)))) (mSeq (mSet 6 (sCall F__law_barred (aC (sVar 4) (aC (sVar 5) aN)))) (mSeq (mIf (bNot (bTru (.ex (sCall F__law_alike (aC (sCall F__law_told (aC (sC (.int 0)) (aC (sVar 4) (aC (sVar 5) (aC (sC .none) aN))))) (aC (sN pTuple [(.nm 6)]) aN)))))) (mRet (sC (.bool false))) mNext) (mSeq (mFor (sRange1 (aC (sC (.int 8)) aN)) (.nm 7) (mSeq (mSet 8 (sN pTuple [(.ex (sListComp [9] ⟨(sRange1 (aC (sVar 3) aN)), (.nm 9), bYes⟩ [] (sOp2 pSub (.ex (sCallL F__law_take 1 (aC (sC (.int 17)) aN))) (.ex (sC (.int 8))))))])) (mSeq (mIf (bAnd (bVal (sOp2 pNe (.nm 6) (.ex (sLst aN)))) (bVal (sOp2 pEq (.ex (sCallL F__law_take 1 (aC (sC (.int 2)) aN))) (.ex (sC (.int 0)))))) (mSeq (mSet 10 (sOp2 pIx2 (.nm 6) (.ex (sCallL F__law_take 1 (aC (sN pLen2 [(.nm 6)]) aN))))) (mSet 8 (sN pTuple [(.ex (sListComp [11, 12] ⟨(sIt (sVar 10)), (.tup [(.nm 11), (.nm 12)]), bYes⟩ [] (sOp2 pIx2 (.ex (sLst (aC (sVar 11) (aC (sVar 12) (aC (sOp2 pAdd (.nm 11) (.ex (sC (.int 1)))) (aC (sOp2 pSub (.nm 12) (.ex (sC (.int 1)))) aN)))))) (.ex (sCallL F__law_take 1 (aC (sC (.int 4)) aN))))))]))) mNext) (mSeq (mSet 13 (sCall F__law_stands (aC (sVar 4) (aC (sVar 5) (aC (sVar 8) aN))))) (mIf (bOr (bNot (bTru (.ex (sCall F__law_says (aC (sCall F__law_told (aC (sC (.int 1)) (aC (sVar 4) (aC (sVar 5) (aC (sVar 8) aN))))) (aC (sVar 13) aN)))))) (bVal (sOp2 pNe (.nm 13) (.ex (sCall F__law_clear (aC (sVar 6) (aC (sVar 8) aN))))))) (mRet (sC (.bool false))) mNext))))) (mSeq (mSet 14 (sLst (aC (sN pTuple [(.ex (sListComp [9] ⟨(sRange1 (aC (sVar 3) aN)), (.nm 9), bYes⟩ [] (sOp2 pAdd (.ex (sC (.int 9))) (.ex (sCallL F__law_take 1 (aC (sC (.int 3)) aN))))))]) aN))) (mSeq (mFor (sRange1 (aC (sC (.int 8)) aN)) (.nm 7) (mSeq (mPar2 9 15 (sCallL F__law_take 1 (aC (sVar 3) aN)) (sOp2 pSub (.ex (sCallL F__law_take 1 (aC (sC (.int 15)) aN))) (.ex (sC (.int 7))))) (mSeq (mSet 16 (sOp2 pAdd (.ex (sOp2 pAdd (.ex (sSl (.ex (sOp2 pIx2 (.nm 14) (.ex (sOp1 pNeg (.ex (sC (.int 1))))))) .no (.ex (sVar 9)))) (.ex (sTup (aC (sOp2 pAdd (.ex (sOp2 pIx2 (.ex (sOp2 pIx2 (.nm 14) (.ex (sOp1 pNeg (.ex (sC (.int 1))))))) (.nm 9))) (.nm 15)) aN))))) (.ex (sSl (.ex (sOp2 pIx2 (.nm 14) (.ex (sOp1 pNeg (.ex (sC (.int 1))))))) (.ex (sOp2 pAdd (.nm 9) (.ex (sC (.int 1))))) .no)))) (mIf (bOr (bTru (.ex (sCall F__law_shift (aC (sVar 6) (aC (sOp2 pIx2 (.nm 14) (.ex (sOp1 pNeg (.ex (sC (.int 1)))))) (aC (sVar 16) aN)))))) (bVal (sOp2 pEq (.ex (sCallL F__law_take 1 (aC (sC (.int 12)) aN))) (.ex (sC (.int 0)))))) (mDrop (sLM opAppend 14 (aC (sVar 16) aN))) mNext)))) (mSeq (mSet 17 (sCall F__law_way (aC (sVar 6) (aC (sVar 3) (aC (sN pTuple [(.nm 14)]) aN))))) (mSeq (mSet 15 (sN pSum [(.ex (sListComp [19] ⟨(sRange2 (aC (sC (.int 1)) (aC (sN pLen2 [(.nm 14)]) aN))), (.nm 19), bYes⟩ [] (sN pSum [(.ex (sListComp [18] ⟨(sRange1 (aC (sVar 3) aN)), (.nm 18), bYes⟩ [] (sN pAbs [(.ex (sOp2 pSub (.ex (sOp2 pIx2 (.ex (sOp2 pIx2 (.nm 14) (.nm 19))) (.nm 18))) (.ex (sOp2 pIx2 (.ex (sOp2 pIx2 (.nm 14) (.ex (sOp2 pSub (.nm 19) (.ex (sC (.int 1))))))) (.nm 18)))))])))])))])) (mSeq (mIf (bOr (bNot (bTru (.ex (sCall F__law_says (aC (sCall F__law_told (aC (sC (.int 2)) (aC (sVar 4) (aC (sVar 5) (aC (sN pTuple [(.nm 14)]) aN))))) (aC (sVar 17) aN)))))) (bAnd (bTru (.nm 17)) (bVal (sOp2 pNe (.ex (sCall F_length_of (aC (sN pTuple [(.nm 14)]) aN))) (.nm 15))))) (mRet (sC (.bool false))) mNext) (mSeq (mSet 19 (sCallL F__law_take 1 (aC (sN pLen2 [(.nm 14)]) aN))) (mSeq (mSet 20 (sN pTuple [(.nm 14)])) (mSeq (mSet 21 (sLst (aC (sOp2 pAdd (.ex (sSl (.nm 20) .no (.ex (sVar 19)))) (.ex (sSl (.nm 20) (.ex (sOp2 pAdd (.nm 19) (.ex (sC (.int 1))))) .no))) (aC (sOp2 pAdd (.nm 20) (.ex (sSl (.nm 20) (.ex (sOp1 pNeg (.ex (sC (.int 1))))) .no))) (aC (sOp1 pRev (.nm 20)) (aC (sN pListC2 [(.nm 20)]) (aC (sC .none) (aC (sTup aN) (aC (sOp2 pAdd (.ex (sOp2 pAdd (.ex (sSl (.nm 20) .no (.ex (sVar 19)))) (.ex (sTup (aC (sC .none) aN))))) (.ex (sSl (.nm 20) (.ex (sOp2 pAdd (.nm 19) (.ex (sC (.int 1))))) .no))) (aC (sOp2 pAdd (.ex (sOp2 pAdd (.ex (sSl (.nm 20) .no (.ex (sVar 19)))) (.ex (sTup (aC (sN pListC2 [(.ex (sOp2 pIx2 (.nm 20) (.nm 19)))]) aN))))) (.ex (sSl (.nm 20) (.ex (sOp2 pAdd (.nm 19) (.ex (sC (.int 1))))) .no))) aN)))))))))) (mSeq (mSet 21 (sOp2 pAdd (.nm 21) (.ex (sLst (aC (sOp2 pAdd (.ex (sOp2 pAdd (.ex (sSl (.nm 20) .no (.ex (sVar 19)))) (.ex (sTup (aC (sOp2 pAdd (.ex (sOp2 pIx2 (.nm 20) (.nm 19))) (.ex (sTup (aC (sC (.int 0)) aN)))) aN))))) (.ex (sSl (.nm 20) (.ex (sOp2 pAdd (.nm 19) (.ex (sC (.int 1))))) .no))) (aC (sOp2 pAdd (.ex (sOp2 pAdd (.ex (sSl (.nm 20) .no (.ex (sVar 19)))) (.ex (sTup (aC (sOp2 pRep (.ex (sTup (aC (sC (.int 0)) aN))) (.nm 3)) aN))))) (.ex (sSl (.nm 20) (.ex (sOp2 pAdd (.nm 19) (.ex (sC (.int 1))))) .no))) aN)))))) (mSeq (mSet 21 (sOp2 pAdd (.nm 21) (.ex (sLst (aC (sOp2 pAdd (.ex (sOp2 pAdd (.ex (sSl (.nm 20) .no (.ex (sVar 19)))) (.ex (sTup (aC (sOp2 pAdd (.ex (sSl (.ex (sOp2 pIx2 (.nm 20) (.nm 19))) .no (.ex (sOp1 pNeg (.ex (sC (.int 1))))))) (.ex (sTup (aC (sC (.int 4001)) aN)))) aN))))) (.ex (sSl (.nm 20) (.ex (sOp2 pAdd (.nm 19) (.ex (sC (.int 1))))) .no))) (aC (sOp2 pAdd (.ex (sOp2 pAdd (.ex (sSl (.nm 20) .no (.ex (sVar 19)))) (.ex (sTup (aC (sOp2 pAdd (.ex (sSl (.ex (sOp2 pIx2 (.nm 20) (.nm 19))) .no (.ex (sOp1 pNeg (.ex (sC (.int 1))))))) (.ex (sTup (aC (sC (.bool true)) aN)))) aN))))) (.ex (sSl (.nm 20) (.ex (sOp2 pAdd (.nm 19) (.ex (sC (.int 1))))) .no))) aN)))))) (mSeq (mIf (bVal (sOp2 pNe (.ex (sListComp [22] ⟨(sIt (sVar 21)), (.nm 22), (bNot (bTru (.ex (sCall F__law_says (aC (sCall F__law_told (aC (sC (.int 2)) (aC (sVar 4) (aC (sVar 5) (aC (sVar 22) aN))))) (aC (sCall F__law_way (aC (sVar 6) (aC (sVar 3) (aC (sVar 22) aN)))) aN))))))⟩ [] (sVar 22))) (.ex (sLst aN)))) (mRet (sC (.bool false))) mNext) (mSeq (mSet 23 (sLst (aC (sC .none) (aC (sTup aN) (aC (sOp2 pIx2 (.nm 5) (.ex (sC (.int 0)))) (aC (sN pListC2 [(.nm 5)]) (aC (sCallL F__law_thing 1 (aC (sOp2 pSub (.ex (sC (.int 5))) (.nm 3)) (aC (sC (.int 2)) (aC (sC (.int 2)) (aC (sC (.int 2)) aN))))) (aC (sOp2 pAdd (.nm 5) (.ex (sSl (.nm 5) (.ex (sOp1 pNeg (.ex (sC (.int 1))))) .no))) aN)))))))) (mSeq (mIf (bVal (sOp2 pNe (.ex (sListComp [22] ⟨(sIt (sVar 23)), (.nm 22), (bVal (sOp2 pNe (.ex (sLst (aC (sCall F__law_told (aC (sC (.int 0)) (aC (sVar 4) (aC (sVar 22) (aC (sC .none) aN))))) (aC (sCall F__law_told (aC (sC (.int 1)) (aC (sVar 4) (aC (sVar 22) (aC (sOp2 pRep (.ex (sTup (aC (sC (.int 0)) aN))) (.nm 3)) aN))))) (aC (sCall F__law_told (aC (sC (.int 2)) (aC (sVar 4) (aC (sVar 22) (aC (sTup (aC (sOp2 pRep (.ex (sTup (aC (sC (.int 0)) aN))) (.nm 3)) aN)) aN))))) aN))))) (.ex (sOp2 pRep (.ex (sLst (aC (sC (.str "form")) aN))) (.ex (sC (.int 3)))))))⟩ [] (sVar 22))) (.ex (sLst aN)))) (mRet (sC (.bool false))) mNext) (mIf (bVal (sOp2 pNe (.ex (sListComp [8] ⟨(sIt (sLst (aC (sC .none) (aC (sTup aN) (aC (sOp2 pRep (.ex (sTup (aC (sC (.int 0)) aN))) (.ex (sOp2 pAdd (.nm 3) (.ex (sC (.int 1)))))) (aC (sOp2 pRep (.ex (sLst (aC (sC (.int 0)) aN))) (.nm 3)) (aC (sOp2 pRep (.ex (sTup (aC (sC (.int 4001)) aN))) (.nm 3)) (aC (sOp2 pRep (.ex (sTup (aC (sC .none) aN))) (.nm 3)) aN)))))))), (.nm 8), (bVal (sOp2 pNe (.ex (sCall F__law_told (aC (sC (.int 1)) (aC (sVar 4) (aC (sVar 5) (aC (sVar 8) aN)))))) (.ex (sC (.str "form")))))⟩ [] (sVar 8))) (.ex (sLst aN)))) (mRet (sC (.bool false))) mNext)))))))))))))))))))) (mRet (sC (.bool true)))))
noncomputable def F_law : Fn := ofBody 23 m_law
theorem S_law : FnScope N_law ["script"] (fnScope (top 43)) := C8.fnScope_by (by decide +kernel)
theorem ok_law (x : Tx P w K mg base tabs) {f : Addr} {fd : FuncData} {c Pt : Addr} (D : DefC K mg "law" (top 43) (.ref c) f fd) : L2.FnOk P w K mg base C8.CX0 18 f fd ["script"] (dSp ⟨P, w, K⟩ tabs 1 F_law) := by
  refine fno_fn (N := N_law) (k := 17) D S_law rfl fun A outer s H E hr => ?_
  refine pss_cD ?_ ?_
  · exact ps_setD S_law.nd rfl (by first | exact Or.inl rfl | exact Or.inr rfl) hL0n (pe_fnD (ok__law_draws x) hr (by decide) (by first | rfl | decide) (pa_cD (pe_varD (pv 0)) pa_nD rfl) rfl (len_C len_N) rfl) rfl (by first | exact Or.inl rfl | exact Or.inr rfl)
  refine pss_cD ?_ ?_
  · refine ps_forD PassesOwn.never rfl (pi_range1D (by first | rfl | decide) x.b_range (pa_cD pe_iD pa_nD rfl) rfl) (pg_nm S_law.nd rfl (by first | exact Or.inl rfl | exact Or.inr rfl) (by first | exact Or.inl rfl | exact Or.inr rfl) hL0n) ?_
    refine pss_cD ?_ ?_
    · exact ps_setD S_law.nd rfl (by first | exact Or.inl rfl | exact Or.inr rfl) hL0n (pe_opD op_addD pe_iD (pe_fnLD (ok__law_take x) hr (by decide) (by first | rfl | decide) (pv 1) (pa_cD pe_iD pa_nD rfl) (len_C len_N) rfl)) rfl (by first | exact Or.inl rfl | exact Or.inr rfl)
    refine pss_cD ?_ ?_
    · exact ps_asgD (pe_tupD (pa_cD (pe_fnLD (ok__law_scene x) hr (by decide) (by first | rfl | decide) (pv 1) (pa_cD (pe_varD (pv 3)) (pa_cD pe_iD (pa_cD pe_iD (pa_cD pe_iD (pa_cD pe_iD pa_nD rfl) rfl) rfl) rfl) rfl) (len_C (len_C (len_C (len_C (len_C len_N))))) rfl) (pa_cD (pe_fnLD (ok__law_thing x) hr (by decide) (by first | rfl | decide) (pv 1) (pa_cD (pe_varD (pv 3)) (pa_cD pe_iD (pa_cD pe_iD (pa_cD pe_iD pa_nD rfl) rfl) rfl) rfl) (len_C (len_C (len_C (len_C len_N)))) rfl) pa_nD rfl) rfl)) (pg_tp rfl rfl (pgs_c rfl (pg_nm S_law.nd rfl (by first | exact Or.inl rfl | exact Or.inr rfl) (by first | exact Or.inl rfl | exact Or.inr rfl) hL0n) (pgs_c rfl (pg_nm S_law.nd rfl (by first | exact Or.inl rfl | exact Or.inr rfl) (by first | exact Or.inl rfl | exact Or.inr rfl) hL0n) pgs_n)) rfl)
    refine pss_cD ?_ ?_
    · exact ps_setD S_law.nd rfl (by first | exact Or.inl rfl | exact Or.inr rfl) hL0n (pe_fnD (ok__law_barred x) hr (by decide) (by first | rfl | decide) (pa_cD (pe_varD (pv 4)) (pa_cD (pe_varD (pv 5)) pa_nD rfl) rfl) rfl (len_C (len_C len_N)) rfl) rfl (by first | exact Or.inl rfl | exact Or.inr rfl)
    refine pss_cD ?_ ?_
    · refine ps_ifD (pt_notD (pt_truD (pe_fnD (ok__law_alike x) hr (by decide) (by first | rfl | decide) (pa_cD (pe_fnD (ok__law_told x) hr (by decide) (by first | rfl | decide) (pa_cD pe_iD (pa_cD (pe_varD (pv 4)) (pa_cD (pe_varD (pv 5)) (pa_cD pe_nD pa_nD rfl) rfl) rfl) rfl) rfl (len_C (len_C (len_C (len_C len_N)))) rfl) (pa_cD (pe_tD cr_tuple bt_tuple (by first | rfl | decide) x.b_tuple (POs.cons rfl (pv 6) POs.nil) rfl) pa_nD rfl) rfl) rfl (len_C (len_C len_N)) rfl))) ?_ ?_
      · refine pss_1D ?_
        exact ps_retD pe_bD'
      · exact pss_nD
    refine pss_cD ?_ ?_
    · refine ps_forD PassesOwn.never rfl (pi_range1D (by first | rfl | decide) x.b_range (pa_cD pe_iD pa_nD rfl) rfl) (pg_nm S_law.nd rfl (by first | exact Or.inl rfl | exact Or.inr rfl) (by first | exact Or.inl rfl | exact Or.inr rfl) hL0n) ?_
      refine pss_cD ?_ ?_
      · exact ps_setD S_law.nd rfl (by first | exact Or.inl rfl | exact Or.inr rfl) hL0n (pe_tD cr_tuple bt_tuple (by first | rfl | decide) x.b_tuple (POs.cons rfl (pe_lcN (own := [("axis", 9)]) (LcOk.mk rfl S_law.nd (pi_range1D (by first | rfl | decide) x.b_range (pa_cD (pe_varD (pv 3)) pa_nD rfl) rfl) (blk_by (by kernel_rfl)) (fun _ _ _ _ _ => ⟨rfl, (pg_nm S_law.nd rfl (by first | exact Or.inl rfl | exact Or.inr rfl) (by first | exact Or.inl rfl | exact Or.inr rfl) hL0n), pts_nD⟩) (fun _ _ _ _ _ => ClIns.nil) (fun _ _ _ _ _ => (pe_opD op_subD (pe_fnLD (ok__law_take x) hr (by decide) (by first | rfl | decide) (pv 1) (pa_cD pe_iD pa_nD rfl) (len_C len_N) rfl) pe_iD)) (fun _ => rfl) (show List.Nodup [9] from by decide) (show ∀ i ∈ ([9] : List Nat), i ∈ ([9] : List Nat) from by decide) hL0m)) POs.nil) rfl) rfl (by first | exact Or.inl rfl | exact Or.inr rfl)
      refine pss_cD ?_ ?_
      · refine ps_ifD (PW.pt (pw_andD (pt_cmpD (op_neDD (Room.units hr)) (nomark _) (pv 6) (pe_lstD pa_nD)) (pw_and1D (pt_cmpD (op_eqDD (Room.units hr)) (nomark _) (pe_fnLD (ok__law_take x) hr (by decide) (by first | rfl | decide) (pv 1) (pa_cD pe_iD pa_nD rfl) (len_C len_N) rfl) pe_iD)))) ?_ ?_
        · refine pss_cD ?_ ?_
          · exact ps_setD S_law.nd rfl (by first | exact Or.inl rfl | exact Or.inr rfl) hL0n (pe_ixD (ix_D2 (Room.units hr)) (by intro _ _; rfl) (pv 6) (pe_fnLD (ok__law_take x) hr (by decide) (by first | rfl | decide) (pv 1) (pa_cD (pe_bD cr_len2 bt_len (by first | rfl | decide) x.b_len (POs.cons rfl (pv 6) POs.nil) rfl) pa_nD rfl) (len_C len_N) rfl)) rfl (by first | exact Or.inl rfl | exact Or.inr rfl)
          refine pss_1D ?_
          exact ps_setD S_law.nd rfl (by first | exact Or.inl rfl | exact Or.inr rfl) hL0n (pe_tD cr_tuple bt_tuple (by first | rfl | decide) x.b_tuple (POs.cons rfl (pe_lcN (own := [("low", 11), ("high", 12)]) (LcOk.mk rfl S_law.nd (pi_D (pe_varD (pv 10))) (blk_by (by kernel_rfl)) (fun _ _ _ _ _ => ⟨rfl, (pg_tp rfl rfl (pgs_c rfl (pg_nm S_law.nd rfl (by first | exact Or.inl rfl | exact Or.inr rfl) (by first | exact Or.inl rfl | exact Or.inr rfl) hL0n) (pgs_c rfl (pg_nm S_law.nd rfl (by first | exact Or.inl rfl | exact Or.inr rfl) (by first | exact Or.inl rfl | exact Or.inr rfl) hL0n) pgs_n)) rfl), pts_nD⟩) (fun _ _ _ _ _ => ClIns.nil) (fun _ _ _ _ _ => (pe_ixD (ix_D2 (Room.units hr)) (by intro _ _; rfl) (pe_lstD (pa_cD (pe_varD (pv 11)) (pa_cD (pe_varD (pv 12)) (pa_cD (pe_opD op_addD (pv 11) pe_iD) (pa_cD (pe_opD op_subD (pv 12) pe_iD) pa_nD rfl) rfl) rfl) rfl)) (pe_fnLD (ok__law_take x) hr (by decide) (by first | rfl | decide) (pv 1) (pa_cD pe_iD pa_nD rfl) (len_C len_N) rfl))) (fun _ => rfl) (show List.Nodup [11, 12] from by decide) (show ∀ i ∈ ([11, 12] : List Nat), i ∈ ([11, 12] : List Nat) from by decide) hL0m)) POs.nil) rfl) rfl (by first | exact Or.inl rfl | exact Or.inr rfl)
        · exact pss_nD
      refine pss_cD ?_ ?_
      · exact ps_setD S_law.nd rfl (by first | exact Or.inl rfl | exact Or.inr rfl) hL0n (pe_fnD (ok__law_stands x) hr (by decide) (by first | rfl | decide) (pa_cD (pe_varD (pv 4)) (pa_cD (pe_varD (pv 5)) (pa_cD (pe_varD (pv 8)) pa_nD rfl) rfl) rfl) rfl (len_C (len_C (len_C len_N))) rfl) rfl (by first | exact Or.inl rfl | exact Or.inr rfl)
      refine pss_1D ?_
      refine ps_ifD (PW.pt (pw_orD (pt_notD (pt_truD (pe_fnD (ok__law_says x) hr (by decide) (by first | rfl | decide) (pa_cD (pe_fnD (ok__law_told x) hr (by decide) (by first | rfl | decide) (pa_cD pe_iD (pa_cD (pe_varD (pv 4)) (pa_cD (pe_varD (pv 5)) (pa_cD (pe_varD (pv 8)) pa_nD rfl) rfl) rfl) rfl) rfl (len_C (len_C (len_C (len_C len_N)))) rfl) (pa_cD (pe_varD (pv 13)) pa_nD rfl) rfl) rfl (len_C (len_C len_N)) rfl))) (pw_or1D (pt_cmpD (op_neDD (Room.units hr)) (nomark _) (pv 13) (pe_fnD (ok__law_clear x) hr (by decide) (by first | rfl | decide) (pa_cD (pe_varD (pv 6)) (pa_cD (pe_varD (pv 8)) pa_nD rfl) rfl) rfl (len_C (len_C len_N)) rfl))))) ?_ ?_
      · refine pss_1D ?_
        exact ps_retD pe_bD'
      · exact pss_nD
    refine pss_cD ?_ ?_
    · exact ps_setD S_law.nd rfl (by first | exact Or.inl rfl | exact Or.inr rfl) hL0n (pe_lstD (pa_cD (pe_tD cr_tuple bt_tuple (by first | rfl | decide) x.b_tuple (POs.cons rfl (pe_lcN (own := [("axis", 9)]) (LcOk.mk rfl S_law.nd (pi_range1D (by first | rfl | decide) x.b_range (pa_cD (pe_varD (pv 3)) pa_nD rfl) rfl) (blk_by (by kernel_rfl)) (fun _ _ _ _ _ => ⟨rfl, (pg_nm S_law.nd rfl (by first | exact Or.inl rfl | exact Or.inr rfl) (by first | exact Or.inl rfl | exact Or.inr rfl) hL0n), pts_nD⟩) (fun _ _ _ _ _ => ClIns.nil) (fun _ _ _ _ _ => (pe_opD op_addD pe_iD (pe_fnLD (ok__law_take x) hr (by decide) (by first | rfl | decide) (pv 1) (pa_cD pe_iD pa_nD rfl) (len_C len_N) rfl))) (fun _ => rfl) (show List.Nodup [9] from by decide) (show ∀ i ∈ ([9] : List Nat), i ∈ ([9] : List Nat) from by decide) hL0m)) POs.nil) rfl) pa_nD rfl)) rfl (by first | exact Or.inl rfl | exact Or.inr rfl)
    refine pss_cD ?_ ?_
    · refine ps_forD PassesOwn.never rfl (pi_range1D (by first | rfl | decide) x.b_range (pa_cD pe_iD pa_nD rfl) rfl) (pg_nm S_law.nd rfl (by first | exact Or.inl rfl | exact Or.inr rfl) (by first | exact Or.inl rfl | exact Or.inr rfl) hL0n) ?_
      refine pss_cD ?_ ?_
      · exact ps_par2D rfl S_law.nd rfl rfl (by decide) rfl rfl hL0n hL0n (pe_fnLD (ok__law_take x) hr (by decide) (by first | rfl | decide) (pv 1) (pa_cD (pe_varD (pv 3)) pa_nD rfl) (len_C len_N) rfl) (pe_opD op_subD (pe_fnLD (ok__law_take x) hr (by decide) (by first | rfl | decide) (pv 1) (pa_cD pe_iD pa_nD rfl) (len_C len_N) rfl) pe_iD) rfl rfl rfl rfl
      refine pss_cD ?_ ?_
      · exact ps_setD S_law.nd rfl (by first | exact Or.inl rfl | exact Or.inr rfl) hL0n (pe_opD op_addD (pe_opD op_addD (pe_slD (pe_ixD (ix_D2 (Room.units hr)) (by intro _ _; rfl) (pv 14) (pe_unD un_negD pe_iD)) rfl ⟨_, rfl, (pe_varD (pv 9))⟩) (pe_tupD (pa_cD (pe_opD op_addD (pe_ixD (ix_D2 (Room.units hr)) (by intro _ _; rfl) (pe_ixD (ix_D2 (Room.units hr)) (by intro _ _; rfl) (pv 14) (pe_unD un_negD pe_iD)) (pv 9)) (pv 15)) pa_nD rfl))) (pe_slD (pe_ixD (ix_D2 (Room.units hr)) (by intro _ _; rfl) (pv 14) (pe_unD un_negD pe_iD)) ⟨_, rfl, (pe_opD op_addD (pv 9) pe_iD)⟩ rfl)) rfl (by first | exact Or.inl rfl | exact Or.inr rfl)
      refine pss_1D ?_
      refine ps_ifD (PW.pt (pw_orD (pt_truD (pe_fnD (ok__law_shift x) hr (by decide) (by first | rfl | decide) (pa_cD (pe_varD (pv 6)) (pa_cD (pe_ixD (ix_D2 (Room.units hr)) (by intro _ _; rfl) (pv 14) (pe_unD un_negD pe_iD)) (pa_cD (pe_varD (pv 16)) pa_nD rfl) rfl) rfl) rfl (len_C (len_C (len_C len_N))) rfl)) (pw_or1D (pt_cmpD (op_eqDD (Room.units hr)) (nomark _) (pe_fnLD (ok__law_take x) hr (by decide) (by first | rfl | decide) (pv 1) (pa_cD pe_iD pa_nD rfl) (len_C len_N) rfl) pe_iD)))) ?_ ?_
      · refine pss_1D ?_
        exact ps_dropD (pe_appendD (pv 14) (pa_cD (pe_varD (pv 16)) pa_nD rfl) rfl)
      · exact pss_nD
    refine pss_cD ?_ ?_
    · exact ps_setD S_law.nd rfl (by first | exact Or.inl rfl | exact Or.inr rfl) hL0n (pe_fnD (ok__law_way x) hr (by decide) (by first | rfl | decide) (pa_cD (pe_varD (pv 6)) (pa_cD (pe_varD (pv 3)) (pa_cD (pe_tD cr_tuple bt_tuple (by first | rfl | decide) x.b_tuple (POs.cons rfl (pv 14) POs.nil) rfl) pa_nD rfl) rfl) rfl) rfl (len_C (len_C (len_C len_N))) rfl) rfl (by first | exact Or.inl rfl | exact Or.inr rfl)
    refine pss_cD ?_ ?_
    · exact ps_setD S_law.nd rfl (by first | exact Or.inl rfl | exact Or.inr rfl) hL0n (pe_bD (cr_sumD rfl) bt_sum (by first | rfl | decide) x.b_sum (POs.cons rfl (pe_lcN (own := [("k", 19)]) (LcOk.mk rfl S_law.nd (pi_range2D (by first | rfl | decide) x.b_range (pa_cD pe_iD (pa_cD (pe_bD cr_len2 bt_len (by first | rfl | decide) x.b_len (POs.cons rfl (pv 14) POs.nil) rfl) pa_nD rfl) rfl) rfl rfl) (blk_by (by kernel_rfl)) (fun _ _ _ _ _ => ⟨rfl, (pg_nm S_law.nd rfl (by first | exact Or.inl rfl | exact Or.inr rfl) (by first | exact Or.inl rfl | exact Or.inr rfl) hL0n), pts_nD⟩) (fun _ _ _ _ _ => ClIns.nil) (fun _ _ _ _ _ => (pe_bD (cr_sumD rfl) bt_sum (by first | rfl | decide) x.b_sum (POs.cons rfl (pe_lcN (own := [("j", 18)]) (LcOk.mk rfl S_law.nd (pi_range1D (by first | rfl | decide) x.b_range (pa_cD (pe_varD (pv 3)) pa_nD rfl) rfl) (blk_by (by kernel_rfl)) (fun _ _ _ _ _ => ⟨rfl, (pg_nm S_law.nd rfl (by first | exact Or.inl rfl | exact Or.inr rfl) (by first | exact Or.inl rfl | exact Or.inr rfl) hL0n), pts_nD⟩) (fun _ _ _ _ _ => ClIns.nil) (fun _ _ _ _ _ => (pe_bD cr_abs bt_abs (by first | rfl | decide) x.b_abs (POs.cons rfl (pe_opD op_subD (pe_ixD (ix_D2 (Room.units hr)) (by intro _ _; rfl) (pe_ixD (ix_D2 (Room.units hr)) (by intro _ _; rfl) (pv 14) (pv 19)) (pv 18)) (pe_ixD (ix_D2 (Room.units hr)) (by intro _ _; rfl) (pe_ixD (ix_D2 (Room.units hr)) (by intro _ _; rfl) (pv 14) (pe_opD op_subD (pv 19) pe_iD)) (pv 18))) POs.nil) rfl)) (fun _ => rfl) (show List.Nodup [18] from by decide) (show ∀ i ∈ ([18] : List Nat), i ∈ ([18] : List Nat) from by decide) hL0m)) POs.nil) rfl)) (fun _ => rfl) (show List.Nodup [19] from by decide) (show ∀ i ∈ ([19] : List Nat), i ∈ ([19] : List Nat) from by decide) hL0m)) POs.nil) rfl) rfl (by first | exact Or.inl rfl | exact Or.inr rfl)
    refine pss_cD ?_ ?_
    · refine ps_ifD (PW.pt (pw_orD (pt_notD (pt_truD (pe_fnD (ok__law_says x) hr (by decide) (by first | rfl | decide) (pa_cD (pe_fnD (ok__law_told x) hr (by decide) (by first | rfl | decide) (pa_cD pe_iD (pa_cD (pe_varD (pv 4)) (pa_cD (pe_varD (pv 5)) (pa_cD (pe_tD cr_tuple bt_tuple (by first | rfl | decide) x.b_tuple (POs.cons rfl (pv 14) POs.nil) rfl) pa_nD rfl) rfl) rfl) rfl) rfl (len_C (len_C (len_C (len_C len_N)))) rfl) (pa_cD (pe_varD (pv 17)) pa_nD rfl) rfl) rfl (len_C (len_C len_N)) rfl))) (pw_or1D (PW.pt (pw_andD (pt_truD (pv 17)) (pw_and1D (pt_cmpD (op_neDD (Room.units hr)) (nomark _) (pe_fnD (ok_length_of x) hr (by decide) (by first | rfl | decide) (pa_cD (pe_tD cr_tuple bt_tuple (by first | rfl | decide) x.b_tuple (POs.cons rfl (pv 14) POs.nil) rfl) pa_nD rfl) rfl (len_C len_N) rfl) (pv 15)))))))) ?_ ?_
      · refine pss_1D ?_
        exact ps_retD pe_bD'
      · exact pss_nD
    refine pss_cD ?_ ?_
    · exact ps_setD S_law.nd rfl (by first | exact Or.inl rfl | exact Or.inr rfl) hL0n (pe_fnLD (ok__law_take x) hr (by decide) (by first | rfl | decide) (pv 1) (pa_cD (pe_bD cr_len2 bt_len (by first | rfl | decide) x.b_len (POs.cons rfl (pv 14) POs.nil) rfl) pa_nD rfl) (len_C len_N) rfl) rfl (by first | exact Or.inl rfl | exact Or.inr rfl)
    refine pss_cD ?_ ?_
    · exact ps_setD S_law.nd rfl (by first | exact Or.inl rfl | exact Or.inr rfl) hL0n (pe_tD cr_tuple bt_tuple (by first | rfl | decide) x.b_tuple (POs.cons rfl (pv 14) POs.nil) rfl) rfl (by first | exact Or.inl rfl | exact Or.inr rfl)
    refine pss_cD ?_ ?_
    · exact ps_setD S_law.nd rfl (by first | exact Or.inl rfl | exact Or.inr rfl) hL0n (pe_lstD (pa_cD (pe_opD op_addD (pe_slD (pv 20) rfl ⟨_, rfl, (pe_varD (pv 19))⟩) (pe_slD (pv 20) ⟨_, rfl, (pe_opD op_addD (pv 19) pe_iD)⟩ rfl)) (pa_cD (pe_opD op_addD (pv 20) (pe_slD (pv 20) ⟨_, rfl, (pe_unD un_negD pe_iD)⟩ rfl)) (pa_cD (pe_revD (pv 20)) (pa_cD (pe_tD (cr_list2 rfl) bt_list (by first | rfl | decide) x.b_list (POs.cons rfl (pv 20) POs.nil) rfl) (pa_cD pe_nD (pa_cD (pe_tupD pa_nD) (pa_cD (pe_opD op_addD (pe_opD op_addD (pe_slD (pv 20) rfl ⟨_, rfl, (pe_varD (pv 19))⟩) (pe_tupD (pa_cD pe_nD pa_nD rfl))) (pe_slD (pv 20) ⟨_, rfl, (pe_opD op_addD (pv 19) pe_iD)⟩ rfl)) (pa_cD (pe_opD op_addD (pe_opD op_addD (pe_slD (pv 20) rfl ⟨_, rfl, (pe_varD (pv 19))⟩) (pe_tupD (pa_cD (pe_tD (cr_list2 rfl) bt_list (by first | rfl | decide) x.b_list (POs.cons rfl (pe_ixD (ix_D2 (Room.units hr)) (by intro _ _; rfl) (pv 20) (pv 19)) POs.nil) rfl) pa_nD rfl))) (pe_slD (pv 20) ⟨_, rfl, (pe_opD op_addD (pv 19) pe_iD)⟩ rfl)) pa_nD rfl) rfl) rfl) rfl) rfl) rfl) rfl) rfl)) rfl (by first | exact Or.inl rfl | exact Or.inr rfl)
    refine pss_cD ?_ ?_
    · exact ps_setD S_law.nd rfl (by first | exact Or.inl rfl | exact Or.inr rfl) hL0n (pe_opD op_addD (pv 21) (pe_lstD (pa_cD (pe_opD op_addD (pe_opD op_addD (pe_slD (pv 20) rfl ⟨_, rfl, (pe_varD (pv 19))⟩) (pe_tupD (pa_cD (pe_opD op_addD (pe_ixD (ix_D2 (Room.units hr)) (by intro _ _; rfl) (pv 20) (pv 19)) (pe_tupD (pa_cD pe_iD pa_nD rfl))) pa_nD rfl))) (pe_slD (pv 20) ⟨_, rfl, (pe_opD op_addD (pv 19) pe_iD)⟩ rfl)) (pa_cD (pe_opD op_addD (pe_opD op_addD (pe_slD (pv 20) rfl ⟨_, rfl, (pe_varD (pv 19))⟩) (pe_tupD (pa_cD (pe_opD op_mulD (pe_tupD (pa_cD pe_iD pa_nD rfl)) (pv 3)) pa_nD rfl))) (pe_slD (pv 20) ⟨_, rfl, (pe_opD op_addD (pv 19) pe_iD)⟩ rfl)) pa_nD rfl) rfl))) rfl (by first | exact Or.inl rfl | exact Or.inr rfl)
    refine pss_cD ?_ ?_
    · exact ps_setD S_law.nd rfl (by first | exact Or.inl rfl | exact Or.inr rfl) hL0n (pe_opD op_addD (pv 21) (pe_lstD (pa_cD (pe_opD op_addD (pe_opD op_addD (pe_slD (pv 20) rfl ⟨_, rfl, (pe_varD (pv 19))⟩) (pe_tupD (pa_cD (pe_opD op_addD (pe_slD (pe_ixD (ix_D2 (Room.units hr)) (by intro _ _; rfl) (pv 20) (pv 19)) rfl ⟨_, rfl, (pe_unD un_negD pe_iD)⟩) (pe_tupD (pa_cD pe_iD pa_nD rfl))) pa_nD rfl))) (pe_slD (pv 20) ⟨_, rfl, (pe_opD op_addD (pv 19) pe_iD)⟩ rfl)) (pa_cD (pe_opD op_addD (pe_opD op_addD (pe_slD (pv 20) rfl ⟨_, rfl, (pe_varD (pv 19))⟩) (pe_tupD (pa_cD (pe_opD op_addD (pe_slD (pe_ixD (ix_D2 (Room.units hr)) (by intro _ _; rfl) (pv 20) (pv 19)) rfl ⟨_, rfl, (pe_unD un_negD pe_iD)⟩) (pe_tupD (pa_cD pe_bD' pa_nD rfl))) pa_nD rfl))) (pe_slD (pv 20) ⟨_, rfl, (pe_opD op_addD (pv 19) pe_iD)⟩ rfl)) pa_nD rfl) rfl))) rfl (by first | exact Or.inl rfl | exact Or.inr rfl)
    refine pss_cD ?_ ?_
    · refine ps_ifD (pt_cmpD (op_neDD (Room.units hr)) (nomark _) (pe_lcN (own := [("value", 22)]) (LcOk.mk rfl S_law.nd (pi_D (pe_varD (pv 21))) (blk_by (by kernel_rfl)) (fun _ _ _ _ _ => ⟨rfl, (pg_nm S_law.nd rfl (by first | exact Or.inl rfl | exact Or.inr rfl) (by first | exact Or.inl rfl | exact Or.inr rfl) hL0n), (pts_1D (pt_notD (pt_truD (pe_fnD (ok__law_says x) hr (by decide) (by first | rfl | decide) (pa_cD (pe_fnD (ok__law_told x) hr (by decide) (by first | rfl | decide) (pa_cD pe_iD (pa_cD (pe_varD (pv 4)) (pa_cD (pe_varD (pv 5)) (pa_cD (pe_varD (pv 22)) pa_nD rfl) rfl) rfl) rfl) rfl (len_C (len_C (len_C (len_C len_N)))) rfl) (pa_cD (pe_fnD (ok__law_way x) hr (by decide) (by first | rfl | decide) (pa_cD (pe_varD (pv 6)) (pa_cD (pe_varD (pv 3)) (pa_cD (pe_varD (pv 22)) pa_nD rfl) rfl) rfl) rfl (len_C (len_C (len_C len_N))) rfl) pa_nD rfl) rfl) rfl (len_C (len_C len_N)) rfl))))⟩) (fun _ _ _ _ _ => ClIns.nil) (fun _ _ _ _ _ => (pe_varD (pv 22))) (fun _ => rfl) (show List.Nodup [22] from by decide) (show ∀ i ∈ ([22] : List Nat), i ∈ ([22] : List Nat) from by decide) hL0m)) (pe_lstD pa_nD)) ?_ ?_
      · refine pss_1D ?_
        exact ps_retD pe_bD'
      · exact pss_nD
    refine pss_cD ?_ ?_
    · exact ps_setD S_law.nd rfl (by first | exact Or.inl rfl | exact Or.inr rfl) hL0n (pe_lstD (pa_cD pe_nD (pa_cD (pe_tupD pa_nD) (pa_cD (pe_ixD (ix_D2 (Room.units hr)) (by intro _ _; rfl) (pv 5) pe_iD) (pa_cD (pe_tD (cr_list2 rfl) bt_list (by first | rfl | decide) x.b_list (POs.cons rfl (pv 5) POs.nil) rfl) (pa_cD (pe_fnLD (ok__law_thing x) hr (by decide) (by first | rfl | decide) (pv 1) (pa_cD (pe_opD op_subD pe_iD (pv 3)) (pa_cD pe_iD (pa_cD pe_iD (pa_cD pe_iD pa_nD rfl) rfl) rfl) rfl) (len_C (len_C (len_C (len_C len_N)))) rfl) (pa_cD (pe_opD op_addD (pv 5) (pe_slD (pv 5) ⟨_, rfl, (pe_unD un_negD pe_iD)⟩ rfl)) pa_nD rfl) rfl) rfl) rfl) rfl) rfl)) rfl (by first | exact Or.inl rfl | exact Or.inr rfl)
    refine pss_cD ?_ ?_
    · refine ps_ifD (pt_cmpD (op_neDD (Room.units hr)) (nomark _) (pe_lcN (own := [("value", 22)]) (LcOk.mk rfl S_law.nd (pi_D (pe_varD (pv 23))) (blk_by (by kernel_rfl)) (fun _ _ _ _ _ => ⟨rfl, (pg_nm S_law.nd rfl (by first | exact Or.inl rfl | exact Or.inr rfl) (by first | exact Or.inl rfl | exact Or.inr rfl) hL0n), (pts_1D (pt_cmpD (op_neDD (Room.units hr)) (nomark _) (pe_lstD (pa_cD (pe_fnD (ok__law_told x) hr (by decide) (by first | rfl | decide) (pa_cD pe_iD (pa_cD (pe_varD (pv 4)) (pa_cD (pe_varD (pv 22)) (pa_cD pe_nD pa_nD rfl) rfl) rfl) rfl) rfl (len_C (len_C (len_C (len_C len_N)))) rfl) (pa_cD (pe_fnD (ok__law_told x) hr (by decide) (by first | rfl | decide) (pa_cD pe_iD (pa_cD (pe_varD (pv 4)) (pa_cD (pe_varD (pv 22)) (pa_cD (pe_opD op_mulD (pe_tupD (pa_cD pe_iD pa_nD rfl)) (pv 3)) pa_nD rfl) rfl) rfl) rfl) rfl (len_C (len_C (len_C (len_C len_N)))) rfl) (pa_cD (pe_fnD (ok__law_told x) hr (by decide) (by first | rfl | decide) (pa_cD pe_iD (pa_cD (pe_varD (pv 4)) (pa_cD (pe_varD (pv 22)) (pa_cD (pe_tupD (pa_cD (pe_opD op_mulD (pe_tupD (pa_cD pe_iD pa_nD rfl)) (pv 3)) pa_nD rfl)) pa_nD rfl) rfl) rfl) rfl) rfl (len_C (len_C (len_C (len_C len_N)))) rfl) pa_nD rfl) rfl) rfl)) (pe_opD op_mulD (pe_lstD (pa_cD pe_sD pa_nD rfl)) pe_iD)))⟩) (fun _ _ _ _ _ => ClIns.nil) (fun _ _ _ _ _ => (pe_varD (pv 22))) (fun _ => rfl) (show List.Nodup [22] from by decide) (show ∀ i ∈ ([22] : List Nat), i ∈ ([22] : List Nat) from by decide) hL0m)) (pe_lstD pa_nD)) ?_ ?_
      · refine pss_1D ?_
        exact ps_retD pe_bD'
      · exact pss_nD
    refine pss_1D ?_
    refine ps_ifD (pt_cmpD (op_neDD (Room.units hr)) (nomark _) (pe_lcN (own := [("place", 8)]) (LcOk.mk rfl S_law.nd (pi_D (pe_lstD (pa_cD pe_nD (pa_cD (pe_tupD pa_nD) (pa_cD (pe_opD op_mulD (pe_tupD (pa_cD pe_iD pa_nD rfl)) (pe_opD op_addD (pv 3) pe_iD)) (pa_cD (pe_opD op_mulD (pe_lstD (pa_cD pe_iD pa_nD rfl)) (pv 3)) (pa_cD (pe_opD op_mulD (pe_tupD (pa_cD pe_iD pa_nD rfl)) (pv 3)) (pa_cD (pe_opD op_mulD (pe_tupD (pa_cD pe_nD pa_nD rfl)) (pv 3)) pa_nD rfl) rfl) rfl) rfl) rfl) rfl))) (blk_by (by kernel_rfl)) (fun _ _ _ _ _ => ⟨rfl, (pg_nm S_law.nd rfl (by first | exact Or.inl rfl | exact Or.inr rfl) (by first | exact Or.inl rfl | exact Or.inr rfl) hL0n), (pts_1D (pt_cmpD (op_neDD (Room.units hr)) (nomark _) (pe_fnD (ok__law_told x) hr (by decide) (by first | rfl | decide) (pa_cD pe_iD (pa_cD (pe_varD (pv 4)) (pa_cD (pe_varD (pv 5)) (pa_cD (pe_varD (pv 8)) pa_nD rfl) rfl) rfl) rfl) rfl (len_C (len_C (len_C (len_C len_N)))) rfl) pe_sD))⟩) (fun _ _ _ _ _ => ClIns.nil) (fun _ _ _ _ _ => (pe_varD (pv 8))) (fun _ => rfl) (show List.Nodup [8] from by decide) (show ∀ i ∈ ([8] : List Nat), i ∈ ([8] : List Nat) from by decide) hL0m)) (pe_lstD pa_nD)) ?_ ?_
    · refine pss_1D ?_
      exact ps_retD pe_bD'
    · exact pss_nD
  refine pss_1D ?_
  exact ps_retD pe_bD'
end
end Sd.K06
set_option Elab.async false
set_option linter.all false
set_option maxRecDepth 100000
set_option maxHeartbeats 4000000
set_option autoImplicit false
/-! order and sorting of data that can be compared. -/
namespace Sd
open PySem PySem.Spec PyProof.Rows L2 PySem.W
/-- a kind of data: any two can be compared, and are equal when Python says so -/
structure Ordd (S : D → Prop) : Prop where
  al : ∀ x y, S x → S y → alike x y = true
  eq : ∀ x y, S x → S y → PyData.eqv x y = true → x = y
  rf : ∀ x, S x → PyData.eqv x x = true
theorem toks_ne {x y : D} (h : alike x y = true) (e : PyData.eqv x y = false) : keyToks x ≠ keyToks y := by
  intro q
  have h1 := (toks_eqv x y h).2 e [] [.inl 0]
  rw [q] at h1
  have h2 := lex_pre (keyToks y) [] [Sum.inl 0]
  rw [h2] at h1
  have h3 := lex_irrefl (O := itemOrd) (keyToks y)
  rw [h3] at h1
  exact absurd h1 (by decide)
theorem lt_irr (x : D) : dataLt x x = false := lex_irrefl _
theorem lt_trans' {x y z : D} (h1 : dataLt x y = true) (h2 : dataLt y z = true) : dataLt x z = true := lex_trans _ _ _ h1 h2
theorem lt_asymm {x y : D} (h1 : dataLt x y = true) : dataLt y x = false := by
  cases h : dataLt y x with
  | false => rfl
  | true =>
    have := lt_trans' h1 h
    rw [lt_irr] at this
    cases this
theorem Ordd.tot {S : D → Prop} (o : Ordd S) {x y : D} (hx : S x) (hy : S y) (h1 : dataLt x y = false) (h2 : dataLt y x = false) : x = y := by
  refine o.eq x y hx hy ?_
  cases e : PyData.eqv x y with
  | true => rfl
  | false => exact absurd (lex_total _ _ h1 h2) (toks_ne (o.al x y hx hy) e)
theorem dataLe_not (x y : D) : dataLe false (fun d : D => d) x y = !dataLt y x := rfl
theorem sort_pw (xs : List D) : (sortD xs).Pairwise fun x y => dataLt y x = false := by
  have h := List.pairwise_mergeSort (le := dataLe false fun d : D => d) (by
    intro a b c h1 h2
    rw [dataLe_not] at *
    simp only [Bool.not_eq_true'] at *
    cases h : dataLt c a with
    | false => rfl
    | true =>
      cases q : dataLt a b with
      | true => rw [lt_trans' h q] at h2; cases h2
      | false =>
        have : keyToks a = keyToks b := lex_total _ _ q h1
        have e : dataLt c a = dataLt c b := by unfold dataLt; rw [this]
        rw [e] at h; rw [h] at h2; cases h2) (by
    intro a b
    rw [dataLe_not, dataLe_not]
    cases h : dataLt b a with
    | false => rfl
    | true => rw [lt_asymm h]; rfl) xs
  exact h.imp fun {x y} h => by rw [dataLe_not] at h; simpa using h
theorem sort_mem {xs : List D} {d : D} : d ∈ sortD xs ↔ d ∈ xs := (List.mergeSort_perm xs _).mem_iff
theorem sort_nodup {xs : List D} (h : xs.Nodup) : (sortD xs).Nodup := (List.mergeSort_perm xs _).nodup_iff.mpr h
theorem sort_len (xs : List D) : (sortD xs).length = xs.length := (List.mergeSort_perm xs _).length_eq
/-- distinct data, sorted: strictly upwards -/
theorem Ordd.strict {S : D → Prop} (o : Ordd S) {xs : List D} (hs : ∀ d ∈ xs, S d) (hn : xs.Nodup) : (sortD xs).Pairwise fun x y => dataLt x y = true := by
  have h1 := (List.Pairwise.and (sort_pw xs) (sort_nodup hn))
  refine (List.Pairwise.and_mem.mp h1).imp fun {x y} h => ?_
  cases e : dataLt x y with
  | true => rfl
  | false => exact absurd (o.tot (hs x (sort_mem.mp h.1)) (hs y (sort_mem.mp h.2.1)) e h.2.2.1) h.2.2.2
/-- distinct data: sorted alike just when they are the same data -/
theorem Ordd.same {S : D → Prop} (o : Ordd S) {xs ys : List D} (hx : ∀ d ∈ xs, S d) (hy : ∀ d ∈ ys, S d) (nx : xs.Nodup) (ny : ys.Nodup) : sortD xs = sortD ys ↔ ∀ d, d ∈ xs ↔ d ∈ ys := by
  constructor
  · intro e d
    rw [← sort_mem, e, sort_mem]
  · intro h
    have p : xs.Perm ys := (List.perm_ext_iff_of_nodup nx ny).mpr h
    refine List.Perm.eq_of_pairwise (le := fun x y => dataLt y x = false) (fun a b ha hb h1 h2 => o.tot (hx a (sort_mem.mp ha)) (hy b (sort_mem.mp hb)) h2 h1) (sort_pw xs) (sort_pw ys) ?_
    exact (List.mergeSort_perm xs _).trans (p.trans (List.mergeSort_perm ys _).symm)
theorem eqvAll_self {S : D → Prop} (o : Ordd S) : ∀ {xs ys : List D}, (∀ d ∈ xs, S d) → (∀ d ∈ ys, S d) → (PyData.eqvAll xs ys = true ↔ xs = ys)
  | [], [], _, _ => by simp [PyData.eqvAll]
  | [], _ :: _, _, _ => by simp [PyData.eqvAll]
  | _ :: _, [], _, _ => by simp [PyData.eqvAll]
  | x :: xs, y :: ys, hx, hy => by
    have ih := eqvAll_self o (xs := xs) (ys := ys) (fun d h => hx d (by simp [h])) (fun d h => hy d (by simp [h]))
    rw [PyData.eqvAll, Bool.and_eq_true, ih, List.cons.injEq]
    constructor
    · rintro ⟨h1, h2⟩; exact ⟨o.eq x y (hx x (by simp)) (hy y (by simp)) h1, h2⟩
    · rintro ⟨rfl, h2⟩; exact ⟨o.rf x (hx x (by simp)), h2⟩
theorem Ordd.list {S : D → Prop} (o : Ordd S) {xs ys : List D} (hx : ∀ d ∈ xs, S d) (hy : ∀ d ∈ ys, S d) : PyData.eqv (.list xs) (.list ys) = true ↔ xs = ys := by
  rw [PyData.eqv]
  exact eqvAll_self o hx hy
end Sd
set_option Elab.async false
set_option linter.all false
set_option maxRecDepth 100000
set_option maxHeartbeats 4000000
set_option autoImplicit false
namespace Sd.K06
open PySem PySem.Spec PyProof.Rows L2 C8 Sd PySem.W

theorem z2 : 2 ≤ sizeLine := sizeLine_big (by decide)
theorem is_number_int (v a b : Int) : F_is_number [.int v, .int a, .int b] = .ok (.val (.bool (decide (a ≤ v) && decide (v ≤ b)))) := by
  simp [F_is_number, ofBody, m_is_number, pIsi, isiD, PyData.isInt, PyData.isBool, vB]
  by_cases h : a ≤ v
  · simp [h]
  · simp [h]
abbrev Bx := List (Int × Int)
def eP (p : Int × Int) : D := .tuple [.int p.1, .int p.2]
def eB (b : Bx) : D := .tuple (b.map eP)
def eT (b : List Bx) : D := .tuple (b.map eB)
def eL (b : List Bx) : D := .list (b.map eB)
def eV (b : List Int) : D := .tuple (b.map eI)
@[simp] theorem plain_eI (i : Int) : (eI i).plain = true := plain_int i
@[simp] theorem plain_eP (p : Int × Int) : (eP p).plain = true := by simp [eP]
theorem plainAll_map {α : Type} (f : α → D) (h : ∀ a, (f a).plain = true) (xs : List α) : PyData.plainAll (xs.map f) = true := by
  rw [plainAll_iff]
  intro d hd
  obtain ⟨a, _, rfl⟩ := List.mem_map.mp hd
  exact h a
@[simp] theorem plain_eB (b : Bx) : (eB b).plain = true := by
  unfold eB; rw [plain_tuple]; exact plainAll_map _ plain_eP _
@[simp] theorem plain_eT (b : List Bx) : (eT b).plain = true := by
  unfold eT; rw [plain_tuple]; exact plainAll_map _ plain_eB _
@[simp] theorem plain_eL (b : List Bx) : (eL b).plain = true := by
  unfold eL; rw [plain_list]; exact plainAll_map _ plain_eB _
@[simp] theorem plain_eV (b : List Int) : (eV b).plain = true := by
  unfold eV; rw [plain_tuple]; exact plainAll_map _ plain_eI _
@[simp] theorem ix_eP0 (p : Int × Int) : pIx2 (eP p) (.int 0) = some (.val (.int p.1)) := by simp [eP]
@[simp] theorem ix_eP1 (p : Int × Int) : pIx2 (eP p) (.int 1) = some (.val (.int p.2)) := by simp [eP]
theorem ix_eB (b : Bx) {i : Nat} (h : i < b.length) : pIx2 (eB b) (.int (i : Int)) = some (.val (eP b[i])) := by
  unfold eB
  rw [pIx2_t, ix_map eP b h]
  rfl
theorem ix_eT (b : List Bx) {i : Nat} (h : i < b.length) : pIx2 (eT b) (.int (i : Int)) = some (.val (eB b[i])) := by
  unfold eT
  rw [pIx2_t, ix_map eB b h]
  rfl
@[simp] theorem len_eB (b : Bx) : pLen2 [eB b] = some (.val (.int b.length)) := by simp [eB]
@[simp] theorem len_eT (b : List Bx) : pLen2 [eT b] = some (.val (.int b.length)) := by simp [eT]
@[simp] theorem len_eV (b : List Int) : pLen2 [eV b] = some (.val (.int b.length)) := by simp [eV]
@[simp] theorem zipOf_BB (a b : Bx) : zipOf [eB a, eB b] = some ((a.zip b).map fun p => .tuple [eP p.1, eP p.2]) := by
  simp [eB, zipD_map]
@[simp] theorem zipOf_BV (a : Bx) (b : List Int) : zipOf [eB a, eV b] = some ((a.zip b).map fun p => .tuple [eP p.1, .int p.2]) := by
  simp [eB, eV, zipD_map, eI]
@[simp] theorem iterD_B (a : Bx) : iterD (eB a) = some (a.map eP) := rfl
@[simp] theorem iterD_T (a : List Bx) : iterD (eT a) = some (a.map eB) := rfl
@[simp] theorem iterD_L (a : List Bx) : iterD (eL a) = some (a.map eB) := rfl
def clashB (a b : Bx) : Bool := (a.zip b).all fun p => decide (p.1.1 < p.2.2) && decide (p.2.1 < p.1.2)
def sharedB (a b : Bx) : Bx := (a.zip b).map fun p => (max p.1.1 p.2.1, min p.1.2 p.2.2)
def shiftedB (a : Bx) (v : List Int) : Bx := (a.zip v).map fun p => (p.1.1 + p.2, p.1.2 + p.2)
def holdsB (a : Bx) (v : List Int) : Bool := (a.zip v).all fun p => decide (p.1.1 < p.2) && decide (p.2 < p.1.2)
theorem holds_ok (a : Bx) (b : List Int) : F_holds [eB a, eV b] = .ok (.val (.bool (holdsB a b))) := by
  simp [F_holds, ofBody, m_holds]
  rw [sAll_map (a.zip b) (fun p => .tuple [eP p.1, .int p.2]) (fun p => decide (p.1.1 < p.2) && decide (p.2 < p.1.2))]
  · rfl
  · simp
  · simp
  · intro p _
    simp [turnA, eP]
    by_cases h : p.1.1 < p.2 <;> simp [h]
theorem dimension_ok (b : Bx) (bs : List Bx) : F_dimension [eT (b :: bs)] = .ok (.val (.int b.length)) := by
  simp [F_dimension, ofBody, m_dimension, eT]
theorem law_says_bool (a b : Bool) : F__law_says [.bool a, .bool b] = .ok (.val (.bool (a == b))) := by
  simp [F__law_says, ofBody, m__law_says, PyData.isBool]
theorem zip_all_range {α β : Type} [Inhabited α] [Inhabited β] (P : α → β → Bool) : ∀ (a : List α) (b : List β), a.length = b.length → ((List.range a.length).filter fun i => !P a[i]! b[i]!).isEmpty = (a.zip b).all fun p => P p.1 p.2
  | [], _, _ => rfl
  | x :: xs, [], h => by simp at h
  | x :: xs, y :: ys, h => by
    have ih := zip_all_range P xs ys (by simpa using h)
    rw [List.zip_cons_cons, List.all_cons, ← ih, List.length_cons, List.range_succ_eq_map, List.filter_cons]
    by_cases q : P x y = true
    · simp [q, List.filter_map, Function.comp_def]
    · simp [q]
theorem okEq_ns (xs : List Nat) : okEq (.list (xs.map eN)) = true := by
  have h := depth_mem (xs := xs.map eN) (n := 0) (by
    intro d hd
    obtain ⟨a, _, rfl⟩ := List.mem_map.mp hd
    simp [eN, PyData.depth])
  unfold okEq
  rw [plain_list, plainAll_map eN (fun a => plain_int _)]
  simp [PyData.depth]
  omega
def stB (p q : Int × Int) : Bool := decide (p.1 < q.2) && decide (q.1 < p.2)
theorem law_clash_ok (a b : Bx) (h : a.length = b.length) (hz : a.length ≤ 1000000) : F__law_clash [eB a, eB b] = .ok (.val (.bool (clashB a b))) := by
  unfold F__law_clash m__law_clash
  refine ofBody_ret0 [some (.val (eB a)), some (.val (eB b)), none] rfl ?_
  rw [sEqNil (sLC_if (List.range a.length) eN (fun i => !stB a[i]! b[i]!) eN ?_ ?_ ?_ ?_) (okEq_ns _)]
  · rw [List.isEmpty_map, zip_all_range stB a b h]
    rfl
  · refine sRange1_n (n := a.length) ?_ hz
    simp
  · simp
  · intro i hi
    have hi1 : i < a.length := List.mem_range.mp hi
    have hi2 : i < b.length := h ▸ hi1
    simp [turnC, eN, ix_eB _ hi1, ix_eB _ hi2, hi1, hi2, stB]
    by_cases q : b[i].2 ≤ a[i].1
    · have q2 : ¬ (a[i].1 < b[i].2) := by omega
      simp [q, q2]
    · have q2 : (a[i].1 < b[i].2) := by omega
      simp [q, q2]
      by_cases q3 : a[i].2 ≤ b[i].1
      · have q4 : ¬ (b[i].1 < a[i].2) := by omega
        simp [q3, q4]
      · have q4 : (b[i].1 < a[i].2) := by omega
        simp [q3, q4]
  · simp
    exact sizeLine_big hz
def hoB (p : Int × Int) (q : Int) : Bool := decide (p.1 < q) && decide (q < p.2)
theorem ix_eV (b : List Int) {i : Nat} (h : i < b.length) : pIx2 (eV b) (.int (i : Int)) = some (.val (.int b[i])) := by
  unfold eV
  rw [pIx2_t, ix_map eI b h]
  rfl
theorem law_within_ok (a : Bx) (b : List Int) (h : a.length = b.length) (hz : a.length ≤ 1000000) : F__law_within [eB a, eV b] = .ok (.val (.bool (holdsB a b))) := by
  unfold F__law_within m__law_within
  refine ofBody_ret0 [some (.val (eB a)), some (.val (eV b)), none] rfl ?_
  rw [sEqNil (sLC_if (List.range a.length) eN (fun i => !hoB a[i]! b[i]!) eN ?_ ?_ ?_ ?_) (okEq_ns _)]
  · rw [List.isEmpty_map, zip_all_range hoB a b h]
    rfl
  · refine sRange1_n (n := a.length) ?_ hz
    simp
  · simp
  · intro i hi
    have hi1 : i < a.length := List.mem_range.mp hi
    have hi2 : i < b.length := h ▸ hi1
    simp [turnC, eN, ix_eB _ hi1, ix_eV _ hi2, hi1, hi2, hoB]
    by_cases q : a[i].1 < b[i]
    · have q2 : ¬ (b[i] ≤ a[i].1) := by omega
      by_cases q3 : a[i].2 ≤ b[i] <;> simp [q, q2, q3]
    · have q2 : (b[i] ≤ a[i].1) := by omega
      simp [q, q2]
  · rw [List.length_range]
    exact sizeLine_big hz
def numB (a b : Int) : D → Bool
  | .int i => decide (a ≤ i) && decide (i ≤ b)
  | _ => false
theorem is_number_D (d : D) (a b : Int) (hp : d.plain = true) : F_is_number [d, .int a, .int b] = .ok (.val (.bool (numB a b d))) := by
  cases d with
  | int v => exact is_number_int v a b
  | dict => simp [PyData.plain] at hp
  | _ => simp [F_is_number, ofBody, m_is_number, hp, numB, PyData.isInt, PyData.isBool]
def stretchB : D → Bool
  | .tuple [.int a, .int b] => (decide (-1000 ≤ a) && decide (a ≤ 1000)) && (decide (-1000 ≤ b) && decide (b ≤ 1000)) && decide (a < b)
  | _ => false
theorem two_of {xs : List D} (h : xs.length = 2) : ∃ x y, xs = [x, y] := by
  match xs, h with
  | [x, y], _ => exact ⟨x, y, rfl⟩
theorem stretchB_len {xs : List D} (h : xs.length ≠ 2) : stretchB (.tuple xs) = false := by
  match xs, h with
  | [], _ => rfl
  | [x], _ => cases x <;> rfl
  | [x, y], h => exact absurd rfl h
  | x :: y :: z :: r, _ => cases x <;> cases y <;> rfl
theorem is_stretch_D (d : D) (hp : d.plain = true) : F_is_stretch [d] = .ok (.val (.bool (stretchB d))) := by
  cases d with
  | dict => simp [PyData.plain] at hp
  | tuple xs =>
    by_cases h2 : xs.length = 2
    · obtain ⟨x, y, rfl⟩ := two_of h2
      simp only [plain_tuple, plainAll_cons, plainAll_nil, Bool.and_true, Bool.and_eq_true] at hp
      obtain ⟨hx, hy⟩ := hp
      simp [F_is_stretch, ofBody, m_is_stretch, hx, hy, PyData.isTuple]
      rw [sAll_map [x, y] id (fun d => numB (-1000) 1000 d)]
      · cases x <;> cases y <;> simp [numB, stretchB]
        rename_i a b
        by_cases q : ((-1000 ≤ a ∧ a ≤ 1000) ∧ -1000 ≤ b ∧ b ≤ 1000)
        · simp [q]
        · rw [if_neg q]
          have e : (decide (-1000 ≤ a) && decide (a ≤ 1000) && (decide (-1000 ≤ b) && decide (b ≤ 1000))) = false := by
            cases hh : (decide (-1000 ≤ a) && decide (a ≤ 1000) && (decide (-1000 ≤ b) && decide (b ≤ 1000))) with
            | false => rfl
            | true => exact absurd (by simpa only [Bool.and_eq_true, decide_eq_true_eq] using hh) q
          rw [e]
          rfl
      · simp
      · simp
      · intro d hd
        have hpd : d.plain = true := by
          simp at hd
          rcases hd with rfl | rfl
          · exact hx
          · exact hy
        simp [turnA, is_number_D _ _ _ hpd]
    · have h3 : ((xs.length : Int) == 2) = false := by simp; omega
      simp [F_is_stretch, ofBody, m_is_stretch, hp, PyData.isTuple, h3, stretchB_len h2]
  | _ => simp [F_is_stretch, ofBody, m_is_stretch, hp, stretchB, PyData.isTuple]
def boxB : D → Bool
  | .tuple xs => (xs.length == 2 || xs.length == 3) && xs.all stretchB
  | _ => false
theorem notin23 (n : Nat) : pNotIn2 (.int (n : Int)) (.tuple [.int 2, .int 3]) = some (.val (.bool (!(n == 2 || n == 3)))) := by
  have e2 : ((2 : Int) == (n : Int)) = (n == 2) := by
    by_cases h : n = 2
    · subst h; rfl
    · rw [beq_eq_false_iff_ne.mpr h]; simp; omega
  have e3 : ((3 : Int) == (n : Int)) = (n == 3) := by
    by_cases h : n = 3
    · subst h; rfl
    · rw [beq_eq_false_iff_ne.mpr h]; simp; omega
  simp only [pNotIn2, pNotIn, inD, okEq_int, List.any_cons, List.any_nil, eqv_int, Bool.or_false, e2, e3]
  simp [okEq, PyData.depth, PyData.depthAll, vB]
theorem is_box_D (d : D) (hp : d.plain = true) : F_is_box [d] = .ok (.val (.bool (boxB d))) := by
  cases d with
  | dict => simp [PyData.plain] at hp
  | tuple xs =>
    rw [plain_tuple, plainAll_iff] at hp
    have hz : 2 ≤ sizeLine := z2
    cases h2 : (xs.length == 2 || xs.length == 3) with
    | true =>
      simp [F_is_box, ofBody, m_is_box, PyData.isTuple, notin23, h2, hz, boxB, plainAll_iff.mpr hp]
      rw [sAll_map xs id stretchB]
      · simp
      · simp
      · simp
      · intro d hd
        simp [turnA, is_stretch_D _ (hp d hd)]
    | false => simp [F_is_box, ofBody, m_is_box, PyData.isTuple, notin23, h2, hz, boxB, plainAll_iff.mpr hp]
  | _ => simp [F_is_box, ofBody, m_is_box, hp, boxB, PyData.isTuple]
def placeB (n : Nat) : D → Bool
  | .tuple xs => xs.length == n && xs.all (numB (-4000) 4000)
  | _ => false
theorem is_place_D (d : D) (n : Nat) (hp : d.plain = true) : F_is_place [d, .int (n : Int)] = .ok (.val (.bool (placeB n d))) := by
  cases d with
  | dict => simp [PyData.plain] at hp
  | tuple xs =>
    rw [plain_tuple, plainAll_iff] at hp
    by_cases h2 : xs.length = n
    · have h3 : ((xs.length : Int) == (n : Int)) = true := by simp [h2]
      simp [F_is_place, ofBody, m_is_place, PyData.isTuple, h2, placeB, plainAll_iff.mpr hp]
      rw [sAll_map xs id (numB (-4000) 4000)]
      · simp
      · simp
      · simp
      · intro d hd
        simp [turnA, is_number_D _ _ _ (hp d hd)]
    · have h3 : ((xs.length : Int) == (n : Int)) = false := by simp; omega
      simp [F_is_place, ofBody, m_is_place, PyData.isTuple, h3, h2, placeB, plainAll_iff.mpr hp]
  | _ => simp [F_is_place, ofBody, m_is_place, hp, placeB, PyData.isTuple]
abbrev Un := List Int
def inB : Bx → Un → Prop
  | [], [] => True
  | p :: b, i :: u => (p.1 ≤ i ∧ i < p.2) ∧ inB b u
  | _, _ => False
def okB (b : Bx) : Prop := ∀ p ∈ b, p.1 < p.2
theorem okB_cons {p : Int × Int} {b : Bx} : okB (p :: b) ↔ p.1 < p.2 ∧ okB b := by simp [okB]
theorem clashB_cons (p q : Int × Int) (a b : Bx) : clashB (p :: a) (q :: b) = (stB p q && clashB a b) := rfl
theorem clashB_comm : ∀ (a b : Bx), clashB a b = clashB b a
  | [], [] => rfl
  | [], _ :: _ => rfl
  | _ :: _, [] => rfl
  | p :: a, q :: b => by
    rw [clashB_cons, clashB_cons, clashB_comm a b]
    unfold stB
    rw [Bool.and_comm (decide (p.1 < q.2))]
theorem sRange1_s {as : M (List D)} {ρ : Ev} {n : Nat} (h : as ρ = .ok [.int (n : Int)] ρ) (hn : n ≤ 1000000) : sRange1 as ρ = .ok ((List.range n).map eN) ρ := sRange1_n h hn
theorem eB_app (a b : Bx) : eB (a ++ b) = .tuple (a.map eP ++ b.map eP) := by simp [eB]
theorem sl_to (pre rest : Bx) (i : Nat) (h : i = pre.length) : pSl none (some (i : Int)) (eB (pre ++ rest)) = some (.val (eB pre)) := by
  rw [eB_app]
  show some (Sl.val (.tuple (cutD _ _ _))) = _
  rw [cutD_to _ _ _ (by simpa using h)]
  rfl
theorem sl_from (pre rest : Bx) (i : Nat) (h : i = pre.length) : pSl (some (i : Int)) none (eB (pre ++ rest)) = some (.val (eB rest)) := by
  rw [eB_app]
  show some (Sl.val (.tuple (cutD _ _ _))) = _
  rw [cutD_from _ _ _ (by simpa using h)]
  rfl
theorem sl_from1 (pre rest : Bx) (r : Int × Int) (i : Nat) (h : i = pre.length) : pSl (some ((i : Int) + 1)) none (eB (pre ++ r :: rest)) = some (.val (eB rest)) := by
  have e : (i : Int) + 1 = ((i + 1 : Nat) : Int) := by simp
  have e2 : pre ++ r :: rest = (pre ++ [r]) ++ rest := by simp
  rw [e, e2, sl_from _ _ _ (by simp [h])]
theorem ix_app (pre rest : Bx) (r : Int × Int) (i : Nat) (h : i = pre.length) : pIx2 (eB (pre ++ r :: rest)) (.int (i : Int)) = some (.val (eP r)) := by
  rw [ix_eB _ (by simp; omega)]
  subst h
  simp
theorem sLC_go {α : Type} {vs : List Nat} {it : M (List D)} {tg : Tgt} {cond : M Bool} {dcs : List DCl} {f : M Sl} {ρ : Ev} (ρ1 : Ev) (xs : List α) (enc : α → D) (g : α → List D) (h1 : it ρ = .ok (xs.map enc) ρ1) (hr : restoreE ρ1 (wipeE ρ1 vs) vs = ρ1)
    (h2 : ∀ a ∈ xs, turnC tg cond (compGo (emit1 f) dcs) (enc a) (wipeE ρ1 vs) = .ok (g a) (wipeE ρ1 vs)) (hz : (xs.flatMap g).length ≤ sizeLine) :
    sListComp vs ⟨it, tg, cond⟩ dcs f ρ = .ok (.own (.lst (xs.flatMap g))) ρ1 := by
  rw [sListComp_run (dc := ⟨it, tg, cond⟩) h1 (compItems_map enc h2) hz, hr]
theorem map_flatMap' {α β γ : Type} (f : β → γ) (g : α → List β) (xs : List α) : (xs.flatMap fun a => (g a).map f) = (xs.flatMap g).map f := by
  induction xs with
  | nil => rfl
  | cons x xs ih => rw [List.flatMap_cons, List.flatMap_cons, List.map_append, ih]
theorem ints_map (xs : List Int) : intsD (xs.map .int) = some xs := by
  induction xs with
  | nil => rfl
  | cons x xs ih => simp [intsD, ih]
theorem alikeAll_map {α : Type} (f : α → D) (h : ∀ a b, alike (f a) (f b) = true) : ∀ xs ys : List α, alikeAll (xs.map f) (ys.map f) = true
  | [], _ => by simp [alikeAll]
  | _ :: _, [] => by simp [alikeAll]
  | x :: xs, y :: ys => by
    rw [List.map_cons, List.map_cons, alikeAll, h x y, alikeAll_map f h xs ys]; rfl
theorem eqvAll_map {α : Type} [DecidableEq α] (f : α → D) (h : ∀ a b, PyData.eqv (f a) (f b) = decide (a = b)) : ∀ xs ys : List α, PyData.eqvAll (xs.map f) (ys.map f) = decide (xs = ys)
  | [], [] => by simp [PyData.eqvAll]
  | [], _ :: _ => by simp [PyData.eqvAll]
  | _ :: _, [] => by simp [PyData.eqvAll]
  | x :: xs, y :: ys => by
    rw [List.map_cons, List.map_cons, PyData.eqvAll, eqvAll_map f h xs ys, h x y]
    by_cases q : x = y <;> simp [q]
theorem alike_eI (i j : Int) : alike (eI i) (eI j) = true := by simp [eI, alike]
theorem alike_eP (p q : Int × Int) : alike (eP p) (eP q) = true := by simp [eP, alike, alikeAll]
theorem alike_eB (a b : Bx) : alike (eB a) (eB b) = true := by
  unfold eB; rw [alike]; exact alikeAll_map eP alike_eP a b
theorem eqv_eP (p q : Int × Int) : PyData.eqv (eP p) (eP q) = decide (p = q) := by
  obtain ⟨a, b⟩ := p; obtain ⟨c, d⟩ := q
  simp only [eP, PyData.eqv, PyData.eqvAll, Bool.and_true, Prod.mk.injEq]
  by_cases h : a = c <;> by_cases h2 : b = d <;> simp [h, h2]
theorem eqv_eB (a b : Bx) : PyData.eqv (eB a) (eB b) = decide (a = b) := by
  unfold eB; rw [PyData.eqv, eqvAll_map eP eqv_eP]
theorem ordB : Ordd fun d => ∃ b, d = eB b where
  al := by rintro x y ⟨u, rfl⟩ ⟨v, rfl⟩; exact alike_eB u v
  eq := by
    rintro x y ⟨u, rfl⟩ ⟨v, rfl⟩ h
    rw [eqv_eB] at h
    rw [of_decide_eq_true h]
  rf := by rintro x ⟨u, rfl⟩; rw [eqv_eB]; simp
theorem depth_eP (p : Int × Int) : (eP p).depth ≤ 2 := by simp [eP, PyData.depth, PyData.depthAll]
theorem depth_eB (b : Bx) : (eB b).depth ≤ 4 := by
  have h := depth_mem (xs := b.map eP) (n := 2) (by intro d hd; obtain ⟨a, _, rfl⟩ := List.mem_map.mp hd; exact depth_eP a)
  unfold eB; simp only [PyData.depth]; omega
def ltB (a b : Bx) : Bool := dataLt (eB a) (eB b)
theorem pLt_eB (a b : Bx) : pLt (eB a) (eB b) = some (.val (.bool (ltB a b))) := by
  have h : okLt (eB a) (eB b) = true := by
    unfold okLt
    have h1 : decide ((eB a).depth ≤ 60) = true := decide_eq_true (by have := depth_eB a; omega)
    rw [plain_eB, plain_eB, alike_eB, h1]
    rfl
  unfold pLt
  rw [if_pos h]
  rfl
theorem stretchB_eP {d : D} (h : stretchB d = true) : ∃ p, d = eP p ∧ p.1 < p.2 ∧ -1000 ≤ p.1 ∧ p.2 ≤ 1000 := by
  unfold stretchB at h
  split at h
  · rename_i a b
    simp only [Bool.and_eq_true, decide_eq_true_eq] at h
    exact ⟨(a, b), rfl, by simp; omega, by simp; omega, by simp; omega⟩
  · cases h
theorem boxB_eB {d : D} (h : boxB d = true) : ∃ b, d = eB b ∧ okB b ∧ (b.length = 2 ∨ b.length = 3) := by
  unfold boxB at h
  split at h
  · rename_i xs
    simp only [Bool.and_eq_true, Bool.or_eq_true, beq_iff_eq] at h
    obtain ⟨hl, ha⟩ := h
    have key : ∀ xs : List D, xs.all stretchB = true → ∃ b : Bx, xs = b.map eP ∧ okB b := by
      intro xs
      induction xs with
      | nil => exact fun _ => ⟨[], rfl, by simp [okB]⟩
      | cons x xs ih =>
        intro h
        rw [List.all_cons, Bool.and_eq_true] at h
        obtain ⟨p, rfl, h1, _⟩ := stretchB_eP h.1
        obtain ⟨b, rfl, h2⟩ := ih h.2
        exact ⟨p :: b, rfl, okB_cons.mpr ⟨h1, h2⟩⟩
    obtain ⟨b, rfl, h2⟩ := key xs ha
    exact ⟨b, rfl, h2, by simpa using hl⟩
  · cases h
theorem boxes_eB : ∀ {xs : List D}, xs.all boxB = true → ∃ bs : List Bx, xs = bs.map eB
  | [], _ => ⟨[], rfl⟩
  | x :: xs, h => by
    rw [List.all_cons, Bool.and_eq_true] at h
    obtain ⟨b, rfl, _⟩ := boxB_eB h.1
    obtain ⟨bs, rfl⟩ := boxes_eB h.2
    exact ⟨b :: bs, rfl⟩
theorem is_thing_no_tuple (d : D) (hp : d.plain = true) (h : d.isTuple = false) : F_is_thing [d] = .ok (.val (.bool false)) := by
  simp [F_is_thing, ofBody, m_is_thing, hp, h]
theorem is_thing_len (xs : List D) (hp : PyData.plainAll xs = true) (h : ¬ (1 ≤ xs.length ∧ xs.length ≤ 8)) : F_is_thing [.tuple xs] = .ok (.val (.bool false)) := by
  by_cases h1 : (1 : Int) ≤ (xs.length : Int)
  · have h2 : ¬ ((xs.length : Int) ≤ 8) := by omega
    simp [F_is_thing, ofBody, m_is_thing, hp, PyData.isTuple, h1, h2]
  · simp [F_is_thing, ofBody, m_is_thing, hp, PyData.isTuple, h1]
theorem is_thing_bad (xs : List D) (hp : PyData.plainAll xs = true) (h1 : 1 ≤ xs.length) (h2 : xs.length ≤ 8) (h : xs.all boxB = false) : F_is_thing [.tuple xs] = .ok (.val (.bool false)) := by
  have q1 : (1 : Int) ≤ (xs.length : Int) := by omega
  have q2 : (xs.length : Int) ≤ 8 := by omega
  simp [F_is_thing, ofBody, m_is_thing, hp, PyData.isTuple, q1, q2]
  rw [sAll_map xs id boxB]
  · rw [h]; simp
  · simp
  · simp
  · intro d hd
    simp [turnA, is_box_D _ (plainAll_iff.mp hp d hd)]
theorem is_thing_T (b : Bx) (bs : List Bx) (h2 : (b :: bs).length ≤ 8) (h : ((b :: bs).map eB).all boxB = true) : F_is_thing [eT (b :: bs)] = .ok (.val (.bool ((b :: bs).all (fun c => c.length == b.length) && ((b :: bs).zip bs).all fun p => ltB p.1 p.2))) := by
  have q1 : (1 : Int) ≤ ((b :: bs).length : Int) := by simp; omega
  have q2 : ((b :: bs).length : Int) ≤ 8 := by omega
  have ht : (eT (b :: bs)).isTuple = true := rfl
  simp only [F_is_thing, ofBody, m_is_thing, List.map_cons, List.map_nil, List.cons_append, List.nil_append, List.replicate, mSeq_ap, mIf_ap, bOr_ap, bNot_ap, bTru_ap, ph1_ex, sOp1_ap, ph1_nm, List.getElem?_cons_zero, Res.bind_ok, ph2_nm, frz_val, Option.bind_some, pIsi_t _ (plain_eT _), ht, Res.ofO_some, ph2_ex, truD_bool, Bool.not_true, Bool.false_eq_true, if_false, bVal_ap, sCh_ap, sC_ap, sN1_ap, len_eT, pLe_int, decide_eq_true q1, boolD_b, decide_eq_true q2]
  rw [sAll_map (b :: bs) eB (fun c => boxB (eB c))]
  · have e : ((b :: bs).all fun c => boxB (eB c)) = true := by rw [← h, List.all_map]; rfl
    rw [e]
    simp only [Res.bind_ok, frz_val, Option.bind_some, truD_bool, Res.ofO_some, Bool.not_true, Res.out_ok, Bool.false_eq_true, if_false, mNext_ap, Out.seq_nx, mSeq_ap, mIf_ap, bNot_ap, bTru_ap, ph1_ex, ph2_ex]
    rw [sAll_map (b :: bs) eB (fun c => c.length == b.length)]
    · cases hl : (b :: bs).all (fun c => c.length == b.length) with
      | false => simp
      | true =>
        simp only [Res.bind_ok, frz_val, Option.bind_some, truD_bool, Res.ofO_some, Bool.not_true, Res.out_ok, Bool.false_eq_true, if_false, mNext_ap, Out.seq_nx, mRet_ap]
        rw [sAll_map ((b :: bs).zip bs) (fun p => .tuple [eB p.1, eB p.2]) (fun p => ltB p.1 p.2)]
        · rfl
        · have e1 : pSl (some 1) none (eT (b :: bs)) = some (.val (eT bs)) := by
            show some (Sl.val (.tuple (cutD ([eB b] ++ bs.map eB) (some ((1 : Nat) : Int)) none))) = _
            rw [cutD_from _ _ 1 rfl]
            rfl
          have e2 : zipOf [eT (b :: bs), eT bs] = some (((b :: bs).zip bs).map fun p => .tuple [eB p.1, eB p.2]) := by
            unfold eT
            rw [zipOf_t, zipD_map]
          simp [e1, e2]
        · simp
        · intro p _
          simp [turnA, pLt_eB]
    · simp
    · simp
    · intro c _
      have e0 : pIx2 (eT (b :: bs)) (.int 0) = some (.val (eB b)) := by simp [eT]
      simp [turnA, e0]
      refine ⟨_, ⟨?_, rfl⟩, fun _ => rfl, rfl⟩
      rw [Bool.eq_iff_iff]
      simp
      try omega
  · simp
  · simp
  · intro c _
    simp [turnA, is_box_D _ (plain_eB c)]
theorem ofBodyL_rt {k : Nat} {m : MS} {o : Ob} {ds : List D} {r : Sl} (ρ0 ρ : Ev) (h0 : some (.own o) :: (ds.map (fun d => some (.val d)) ++ List.replicate k none) = ρ0) (h : m ρ0 = .rt r ρ) : ofBodyL k m o ds = lentOf ρ r := by
  unfold ofBodyL
  rw [h0, h]
def oI (ds : List Int) : Ob := .lst (ds.map eI)
theorem law_take (ds : List Int) (b : Int) (hb : 0 < b) : ∃ (r : Int) (es : List Int), 0 ≤ r ∧ r < b ∧ F__law_take (oI ds) [.int b] = .ok (.val (.int r)) (.own (oI es)) := by
  rcases List.eq_nil_or_concat ds with rfl | ⟨es, x, rfl⟩
  · refine ⟨0, [], Int.le_refl _, hb, ?_⟩
    simp [F__law_take, ofBodyL, m__law_take, oI]
    rfl
  · refine ⟨x % b, es, Int.emod_nonneg _ (by omega), Int.emod_lt_of_pos _ hb, ?_⟩
    have h0 : ¬ ((es.length : Int) + 1 = 0) := by omega
    simp [F__law_take, ofBodyL, m__law_take, oI, opPop, h0, eI, pInt, vI, pMod, hb]
    rfl
theorem mul23 : pRep (.int 2) (.int 3) = some (.val (.int 6)) := by
  have e64 : (2 : Int) ^ 64 = 18446744073709551616 := by decide
  have q1 : -(2 ^ 64) < (2 : Int) := by rw [e64]; omega
  have q2 : (2 : Int) < 2 ^ 64 := by rw [e64]; omega
  unfold pRep
  simp only
  rw [if_pos (.inl ⟨q1, q2⟩)]
  rfl
theorem alk_tuple (R : Fn) (xs : List D) (hp : PyData.plainAll xs = true) (hl : xs.length ≤ 1000) (h : ∀ x ∈ xs, R [x, x] = .ok (.val (.bool true))) : FF__law_alike R [.tuple xs, .tuple xs] = .ok (.val (.bool true)) := by
  have hpt : (PyData.tuple xs).plain = true := by rw [plain_tuple]; exact hp
  have hc : sOp2 pEq (.ex (sListComp [2] ⟨(sRange1 (aC (sN pLen2 [(.nm 1)]) aN)), (.nm 2), (bNot (bTru (.ex (sCall R (aC (sOp2 pIx2 (.nm 0) (.nm 2)) (aC (sOp2 pIx2 (.nm 1) (.nm 2)) aN))))))⟩ [] (sVar 2))) (.ex (sLst aN)) [some (.val (.tuple xs)), some (.val (.tuple xs)), none] = .ok (.val (.bool true)) [some (.val (.tuple xs)), some (.val (.tuple xs)), none] := by
    rw [sEqNil (sLC_if (List.range xs.length) eN (fun _ => false) eN ?_ ?_ ?_ ?_) (okEq_ns _)]
    · simp
    · refine sRange1_s (n := xs.length) ?_ (by omega)
      simp
    · simp
    · intro i hi
      have hi1 : i < xs.length := List.mem_range.mp hi
      have e : pIx2 (.tuple xs) (.int (i : Int)) = some (.val xs[i]) := by rw [pIx2_t, atI_lt hi1]; rfl
      simp [turnC, eN, e, h xs[i] (List.getElem_mem hi1)]
    · rw [List.length_range]; exact sizeLine_big (by omega)
  unfold FF__law_alike m__law_alike ofBody
  simp only [List.map_cons, List.map_nil, List.replicate, List.cons_append, List.nil_append, mSeq_ap, mIf_ap, bOr_ap, bTru_ap, bVal_ap, ph1_ex, ph2_ex, sOp1_ap, sOp2_ap, ph1_nm, ph2_nm, List.getElem?_cons_zero, List.getElem?_cons_succ, Res.bind_ok, frz_val, Option.bind_some, pIsi_t _ hpt, pIsi_l _ hpt, Res.ofO_some, truD_bool, PyData.isTuple, PyData.isList, Bool.false_eq_true, if_false, if_true, Res.out_ok, pNe_bool, boolD_b, beq_self_eq_true, Bool.not_true, mNext_ap, Out.seq_nx, mRet_ap, sAnd_ap, sN1_ap, pLen2_tuple, pEq_int]
  rw [sOp2_ap] at hc
  simp only [ph1_ex, ph2_ex] at hc
  rw [hc]
  simp
theorem alk_int (R : Fn) (i : Int) : FF__law_alike R [.int i, .int i] = .ok (.val (.bool true)) := by
  simp [FF__law_alike, m__law_alike, ofBody, PyData.isTuple, PyData.isList, PyData.isBool, PyData.isInt, pIs, isNoneD, vB]
theorem alk_none (R : Fn) : FF__law_alike R [.none, .none] = .ok (.val (.bool true)) := by
  simp [FF__law_alike, m__law_alike, ofBody, PyData.isTuple, PyData.isList, pIs, isNoneD, vB]
theorem alk_map {α : Type} (R : Fn) (f : α → D) (hf : ∀ a, (f a).plain = true) (xs : List α) (hl : xs.length ≤ 1000) (h : ∀ x ∈ xs, R [f x, f x] = .ok (.val (.bool true))) : FF__law_alike R [.tuple (xs.map f), .tuple (xs.map f)] = .ok (.val (.bool true)) :=
  alk_tuple R (xs.map f) (plainAll_map f hf xs) (by simpa using hl) fun d hd => by
    obtain ⟨a, ha, rfl⟩ := List.mem_map.mp hd
    exact h a ha
theorem fn_succ (n : Nat) : FN__law_alike (n + 1) = FF__law_alike (FN__law_alike n) := rfl
theorem alk_eP (n : Nat) (p : Int × Int) : FN__law_alike (n + 2) [eP p, eP p] = .ok (.val (.bool true)) := by
  rw [fn_succ]
  exact alk_map _ eI plain_eI [p.1, p.2] (by simp) fun x _ => by rw [fn_succ]; exact alk_int _ x
theorem alk_eB (n : Nat) (b : Bx) (h : b.length ≤ 1000) : FN__law_alike (n + 3) [eB b, eB b] = .ok (.val (.bool true)) := by
  rw [fn_succ]
  exact alk_map _ eP plain_eP b h fun x _ => alk_eP n x
theorem alk_eT (n : Nat) (bs : List Bx) (h : bs.length ≤ 1000) (hb : ∀ b ∈ bs, b.length ≤ 1000) : FN__law_alike (n + 4) [eT bs, eT bs] = .ok (.val (.bool true)) := by
  rw [fn_succ]
  exact alk_map _ eB plain_eB bs h fun x hx => alk_eB n x (hb x hx)
theorem alike_B (b : Bx) (h : b.length ≤ 1000) : F__law_alike [eB b, eB b] = .ok (.val (.bool true)) := alk_eB 5 b h
theorem alike_T (bs : List Bx) (h : bs.length ≤ 1000) (hb : ∀ b ∈ bs, b.length ≤ 1000) : F__law_alike [eT bs, eT bs] = .ok (.val (.bool true)) := alk_eT 4 bs h hb
theorem alike_none : F__law_alike [.none, .none] = .ok (.val (.bool true)) := by
  show FN__law_alike 8 _ = _
  rw [fn_succ]
  exact alk_none _
def insB (U : List Bx) (u : Bx) : List Bx := if u ∈ U then U else U ++ [u]
def eDB (U : List Bx) : List (D × D) := U.map fun u => (eB u, PyData.int 1)
theorem look_eDB (U : List Bx) (u : Bx) : (lookD (eDB U) (eB u)).isSome = decide (u ∈ U) := by
  unfold lookD eDB
  induction U with
  | nil => rfl
  | cons v U ih =>
    rw [List.map_cons, List.find?_cons]
    simp only [eqv_eB]
    by_cases h : v = u
    · simp [h]
    · have h' : ¬ u = v := fun e => h e.symm
      simp only [h, decide_false, List.mem_cons, h', false_or]
      exact ih
theorem store_eDB (U : List Bx) (u : Bx) : storeD (eDB U) (eB u) (.int 1) = eDB (insB U u) := by
  unfold storeD insB
  rw [look_eDB]
  by_cases h : u ∈ U
  · simp only [h, decide_true, if_true]
    unfold eDB
    rw [List.map_map]
    refine List.map_congr_left fun v _ => ?_
    simp only [Function.comp_apply]
    split <;> rfl
  · simp [h, eDB]
theorem insB_ok {U : List Bx} {u : Bx} (h : U.Nodup) : (insB U u).Nodup ∧ ∀ v, v ∈ insB U u ↔ v ∈ U ∨ v = u := by
  unfold insB
  split
  · rename_i hu
    refine ⟨h, fun v => ⟨.inl, ?_⟩⟩
    rintro (h | rfl)
    · exact h
    · exact hu
  · rename_i hu
    refine ⟨?_, fun v => by simp⟩
    rw [List.nodup_append]
    refine ⟨h, by simp, ?_⟩
    intro a ha b hb e
    simp at hb
    subst hb; subst e
    exact hu ha
theorem dictOf_eDB : ∀ (bs U : List Bx), U.Nodup → ∃ V : List Bx, V.Nodup ∧ (∀ v, v ∈ V ↔ v ∈ U ∨ v ∈ bs) ∧ V.length ≤ U.length + bs.length ∧ dictOf (eDB U) (eDB bs) = eDB V
  | [], U, h => ⟨U, h, by simp, by simp, rfl⟩
  | b :: bs, U, h => by
    obtain ⟨i1, i2⟩ := insB_ok (u := b) h
    have i3 : (insB U b).length ≤ U.length + 1 := by unfold insB; split <;> simp
    obtain ⟨V, v1, v2, v3, e⟩ := dictOf_eDB bs (insB U b) i1
    refine ⟨V, v1, fun v => by rw [v2 v, i2 v]; simp [or_assoc], by simp; omega, ?_⟩
    rw [← e, ← store_eDB]
    rfl
theorem unmap : ∀ {xs : List D}, (∀ d ∈ xs, ∃ b, d = eB b) → ∃ bs : List Bx, xs = bs.map eB
  | [], _ => ⟨[], rfl⟩
  | x :: xs, h => by
    obtain ⟨b, rfl⟩ := h x (by simp)
    obtain ⟨bs, rfl⟩ := unmap (xs := xs) fun d hd => h d (by simp [hd])
    exact ⟨b :: bs, rfl⟩
theorem eB_inj {a b : Bx} (h : eB a = eB b) : a = b := by
  have := eqv_eB a b
  rw [h, eqv_eB] at this
  simpa using this.symm
theorem sort_boxes (V : List Bx) (hn : V.Nodup) : ∃ T : List Bx, sortD (V.map eB) = T.map eB ∧ (∀ b, b ∈ T ↔ b ∈ V) ∧ T.length = V.length ∧ T.Pairwise fun a b => ltB a b = true := by
  have hs : ∀ d ∈ V.map eB, ∃ b, d = eB b := by
    intro d hd
    obtain ⟨b, _, rfl⟩ := List.mem_map.mp hd
    exact ⟨b, rfl⟩
  obtain ⟨T, hT⟩ := unmap (xs := sortD (V.map eB)) fun d hd => hs d (sort_mem.mp hd)
  have hnd : (V.map eB).Nodup := by
    unfold List.Nodup
    rw [List.pairwise_map]
    exact hn.imp fun {a b} h e => h (eB_inj e)
  have hp := ordB.strict hs hnd
  rw [hT, List.pairwise_map] at hp
  refine ⟨T, hT, fun b => ?_, ?_, hp⟩
  · have h := sort_mem (xs := V.map eB) (d := eB b)
    rw [hT] at h
    constructor
    · intro hb
      obtain ⟨c, hc, e⟩ := List.mem_map.mp (h.mp (List.mem_map.mpr ⟨b, hb, rfl⟩))
      rw [← eB_inj e]; exact hc
    · intro hb
      obtain ⟨c, hc, e⟩ := List.mem_map.mp (h.mpr (List.mem_map.mpr ⟨b, hb, rfl⟩))
      rw [← eB_inj e]; exact hc
  · have := sort_len (V.map eB)
    rw [hT] at this
    simpa using this
theorem sortOk_boxes (V : List Bx) (n : Nat) (hn : 0 < n) (h : ∀ b ∈ V, b.length = n) (hl : V.length ≤ 1000000) : SortOk (V.map eB) where
  al := by
    intro d hd e he
    obtain ⟨a, _, rfl⟩ := List.mem_map.mp hd
    obtain ⟨b, _, rfl⟩ := List.mem_map.mp he
    exact alike_eB a b
  so := .inl fun d hd => by
    obtain ⟨a, ha, rfl⟩ := List.mem_map.mp hd
    have := h a ha
    cases a with
    | nil => simp at this; omega
    | cons p a => exact ⟨eP p, a.map eP, rfl⟩
  pl := plainAll_map _ plain_eB _
  dp := fun d hd => by
    obtain ⟨a, _, rfl⟩ := List.mem_map.mp hd
    have := depth_eB a
    omega
  ln := by rw [List.length_map]; exact sizeLine_big hl
def kP (p : Int × Int) : NestedKey := .tup [.num p.1, .num p.2]
theorem keysN_B (b : Bx) : keysN (b.map eP) = some (b.map kP) := by
  induction b with
  | nil => rfl
  | cons p b ih => rw [List.map_cons, keysN, ih]; rfl
theorem depth_kP (b : Bx) : NestedKey.depthAll (b.map kP) ≤ 4 := by
  induction b with
  | nil => simp [NestedKey.depthAll]
  | cons i u ih =>
    simp only [List.map_cons, NestedKey.depthAll, NestedKey.depth, kP] at ih ⊢
    omega
theorem tup_eB (b : Bx) : ∃ k, tupKey (eB b) = some k := by
  have h : keyN (eB b) = some (.tup (b.map kP)) := by
    unfold eB keyN
    rw [keysN_B]
    rfl
  refine ⟨.tup (b.map kP), ?_⟩
  unfold tupKey
  rw [h]
  simp only
  rw [if_pos]
  have := depth_kP b
  simp only [NestedKey.depth]
  omega
theorem pairs_eDB (bs : List Bx) : pairsD (bs.map fun b => PyData.tuple [eB b, .int 1]) = some (eDB bs) := by
  induction bs with
  | nil => rfl
  | cons b bs ih =>
    obtain ⟨k, hk⟩ := tup_eB b
    simp [pairsD, ih, eDB, pairD, hk]
theorem allTup_eDB (U : List Bx) : allTup (eDB U) = true := by
  unfold allTup eDB
  rw [List.all_map, List.all_eq_true]
  intro u _
  rfl
theorem seq_assoc (o : Out) (a b : MS) : o.seq (mSeq a b) = (o.seq a).seq b := by
  cases o with
  | nx ρ => rw [Out.seq_nx, Out.seq_nx, mSeq_ap]
  | _ => rfl
theorem pRep_k (i k : Int) (h0 : 0 ≤ k) (h1 : k < 1000000000000) : pRep (.int i) (.int k) = some (.val (.int (i * k))) := by
  have e64 : (2 : Int) ^ 64 = 18446744073709551616 := by decide
  unfold pRep
  simp only
  rw [if_pos (.inr ⟨by rw [e64]; omega, by rw [e64]; omega⟩)]
  rfl
theorem pPow_18 : pPow (.int 10) (.int 18) = some (.val (.int 1000000000000000000)) := by
  unfold pPow
  simp only
  rw [if_pos ⟨by omega, by omega, by decide⟩]
  rfl
theorem pMod_k (i k : Int) (h0 : 0 < k) : pMod (.int i) (.int k) = some (.val (.int (i % k))) := by
  unfold pMod
  simp only
  rw [if_pos h0]
  rfl
theorem pDiv_k (i k : Int) (h0 : 0 < k) (h1 : k < 1073741824) : pDiv (.int i) (.int k) = some (.val (.int (i / k))) := by
  unfold pDiv
  simp only
  rw [if_pos ⟨h0, h1⟩]
  rfl
theorem pInt_i (i : Int) : pInt [.int i] = some (.val (.int i)) := rfl
theorem pAbs_i (i : Int) : pAbs [.int i] = some (.val (.int (if i < 0 then -i else i))) := rfl
theorem app_i (ds : List Int) (i : Int) (h : ds.length < 1000000) : opAppend (ds.map eI) [.int i] = some (.none, (ds ++ [i]).map eI) := by
  unfold opAppend
  simp only
  rw [if_pos (by rw [List.length_map, sizeLine_eq]; omega)]
  simp [eI]
theorem draws_in (S c x4 x6 : Option Sl) : ∀ (is : List Nat) (ds : List Int) (m : Int) (x5 : Option Sl), ds.length + is.length ≤ 100000 → ∃ (es : List Int) (k : Int) (y5 : Option Sl), es.length ≤ ds.length + is.length ∧
    forItems (.nm 5) (mIf (bVal (sOp2 pGt (.nm 3) (.ex (sC (.int 0))))) (mSeq (mDrop (sLM opAppend 1 (aC (sOp2 pMod (.ex (sN pInt [(.nm 3)])) (.ex (sC (.int 997)))) aN))) (mSet 3 (sOp2 pDiv (.nm 3) (.ex (sC (.int 997)))))) mNext) (is.map eN) [S, some (.own (oI ds)), c, some (.val (.int m)), x4, x5, x6] =
      .nx [S, some (.own (oI es)), c, some (.val (.int k)), x4, y5, x6]
  | [], ds, m, x5, _ => ⟨ds, m, x5, by simp, rfl⟩
  | i :: is, ds, m, x5, hl => by
    simp only [List.length_cons] at hl
    by_cases hm : 0 < m
    · obtain ⟨es, k, y5, l, e⟩ := draws_in S c x4 x6 is (ds ++ [m % 997]) (m / 997) (some (.val (eN i))) (by simp; omega)
      refine ⟨es, k, y5, by simp at l ⊢; omega, ?_⟩
      rw [List.map_cons, forItems_cons]
      simp [hm, oI, pInt_i, pMod_k, pDiv_k, app_i _ _ (show ds.length < 1000000 by omega)]
      simpa [oI] using e
    · obtain ⟨es, k, y5, l, e⟩ := draws_in S c x4 x6 is ds m (some (.val (eN i))) (by omega)
      refine ⟨es, k, y5, by simp; omega, ?_⟩
      rw [List.map_cons, forItems_cons]
      simp [hm]
      exact e
theorem draws_out (S x6 : Option Sl) : ∀ (ns : List Int) (ds : List Int) (x2 x3 x4 x5 : Option Sl), ds.length + 62 * ns.length ≤ 10000 → ∃ (es : List Int) (y2 y3 y4 y5 : Option Sl), es.length ≤ ds.length + 62 * ns.length ∧
    forItems (.nm 2) (mSeq (mSet 3 (sN pAbs [(.nm 2)])) (mSeq (mIf (bVal (sOp2 pLt (.nm 3) (.ex (sOp2 pPow (.ex (sC (.int 10))) (.ex (sC (.int 18))))))) (mSeq (mSet 4 (sOp2 pMod (.ex (sN pInt [(.ex (sOp2 pAdd (.ex (sOp2 pRep (.nm 3) (.ex (sC (.int 48271))))) (.ex (sC (.int 11)))))])) (.ex (sC (.int 2147483647))))) (mSeq (mDrop (sLM opAppend 1 (aC (sOp2 pMod (.ex (sN pInt [(.ex (sOp2 pAdd (.ex (sOp2 pRep (.nm 4) (.ex (sC (.int 69621))))) (.nm 3)))])) (.ex (sC (.int 2147483629)))) aN))) (mSeq (mDrop (sLM opAppend 1 (aC (sOp2 pMod (.ex (sN pInt [(.ex (sOp2 pAdd (.nm 4) (.ex (sOp2 pDiv (.nm 3) (.ex (sC (.int 7)))))))])) (.ex (sC (.int 1000003)))) aN))) (mSet 3 (sC (.int 0)))))) mNext) (mFor (sRange1 (aC (sC (.int 60)) aN)) (.nm 5) (mIf (bVal (sOp2 pGt (.nm 3) (.ex (sC (.int 0))))) (mSeq (mDrop (sLM opAppend 1 (aC (sOp2 pMod (.ex (sN pInt [(.nm 3)])) (.ex (sC (.int 997)))) aN))) (mSet 3 (sOp2 pDiv (.nm 3) (.ex (sC (.int 997)))))) mNext)))) (ns.map eI) [S, some (.own (oI ds)), x2, x3, x4, x5, x6] =
      .nx [S, some (.own (oI es)), y2, y3, y4, y5, x6]
  | [], ds, x2, x3, x4, x5, _ => ⟨ds, x2, x3, x4, x5, by simp, rfl⟩
  | n :: ns, ds, x2, x3, x4, x5, hl => by
    simp only [List.length_cons] at hl
    have rg : ∀ ρ : Ev, sRange1 (aC (sC (.int 60)) aN) ρ = .ok ((List.range 60).map eN) ρ := fun ρ => sRange1_n (n := 60) (by simp) (by omega)
    have ab : ∀ m : Int, m = (if n < 0 then -n else n) → ∃ (ds1 : List Int) (m1 : Int) (z4 : Option Sl), ds1.length ≤ ds.length + 2 ∧
       ((mSeq (mSet 3 (sN pAbs [(.nm 2)])) (mIf (bVal (sOp2 pLt (.nm 3) (.ex (sOp2 pPow (.ex (sC (.int 10))) (.ex (sC (.int 18))))))) (mSeq (mSet 4 (sOp2 pMod (.ex (sN pInt [(.ex (sOp2 pAdd (.ex (sOp2 pRep (.nm 3) (.ex (sC (.int 48271))))) (.ex (sC (.int 11)))))])) (.ex (sC (.int 2147483647))))) (mSeq (mDrop (sLM opAppend 1 (aC (sOp2 pMod (.ex (sN pInt [(.ex (sOp2 pAdd (.ex (sOp2 pRep (.nm 4) (.ex (sC (.int 69621))))) (.nm 3)))])) (.ex (sC (.int 2147483629)))) aN))) (mSeq (mDrop (sLM opAppend 1 (aC (sOp2 pMod (.ex (sN pInt [(.ex (sOp2 pAdd (.nm 4) (.ex (sOp2 pDiv (.nm 3) (.ex (sC (.int 7)))))))])) (.ex (sC (.int 1000003)))) aN))) (mSet 3 (sC (.int 0)))))) mNext)) [S, some (.own (oI ds)), some (.val (eI n)), x3, x4, x5, x6] = .nx [S, some (.own (oI ds1)), some (.val (eI n)), some (.val (.int m1)), z4, x5, x6]) := by
      intro m hm
      by_cases h18 : m < 1000000000000000000
      · refine ⟨(ds ++ [((m * 48271 + 11) % 2147483647 * 69621 + m) % 2147483629]) ++ [((m * 48271 + 11) % 2147483647 + m / 7) % 1000003], 0, some (.val (.int ((m * 48271 + 11) % 2147483647))), by simp, ?_⟩
        simp [eI, pAbs_i, ← hm, pPow_18, h18]
        have a1 := app_i ds (((m * 48271 + 11) % 2147483647 * 69621 + m) % 2147483629) (by omega)
        have a2 := app_i (ds ++ [((m * 48271 + 11) % 2147483647 * 69621 + m) % 2147483629]) (((m * 48271 + 11) % 2147483647 + m / 7) % 1000003) (by simp; omega)
        simp only [List.map_append, List.map_cons, List.map_nil] at a1 a2
        simp [pRep_k, pInt_i, pMod_k, pDiv_k, oI, eI] at a1 a2 ⊢
        simp [a1, a2, pMod_k, pInt_i, pDiv_k]
      · refine ⟨ds, m, x4, by omega, ?_⟩
        simp [eI, pAbs_i, ← hm, pPow_18, h18]
    obtain ⟨ds1, m1, z4, l1, e1⟩ := ab _ rfl
    obtain ⟨es, k, z5, l2, e2⟩ := draws_in S (some (.val (eI n))) z4 x6 (List.range 60) ds1 m1 x5 (by simp; omega)
    obtain ⟨fs, y2, y3, y4, y5, l3, e3⟩ := draws_out S x6 ns es (some (.val (eI n))) (some (.val (.int k))) z4 z5 (by simp at l2; omega)
    refine ⟨fs, y2, y3, y4, y5, by simp at l2 ⊢; omega, ?_⟩
    rw [List.map_cons, forItems_cons, assignT_nm]
    simp only [List.set]
    rw [mSeq_ap] at e1 ⊢
    rw [seq_assoc, e1, Out.seq_nx, mFor_ap, rg, Res.out_ok, e2, Out.turn_nx, e3]
theorem draws_end (S x2 x3 x4 : Option Sl) : ∀ (is : List Nat) (ds : List Int) (s : Int) (x5 : Option Sl), ds.length + is.length ≤ 100000 → ∃ (es : List Int) (k : Int) (y5 : Option Sl),
    forItems (.nm 5) (mSeq (mSet 6 (sOp2 pMod (.ex (sN pInt [(.ex (sOp2 pAdd (.ex (sOp2 pRep (.nm 6) (.ex (sC (.int 48271))))) (.ex (sC (.int 69621)))))])) (.ex (sC (.int 2147483647))))) (mDrop (sLM opAppend 1 (aC (sOp2 pDiv (.nm 6) (.ex (sC (.int 5)))) aN)))) (is.map eN) [S, some (.own (oI ds)), x2, x3, x4, x5, some (.val (.int s))] =
      .nx [S, some (.own (oI es)), x2, x3, x4, y5, some (.val (.int k))]
  | [], ds, s, x5, _ => ⟨ds, s, x5, rfl⟩
  | i :: is, ds, s, x5, hl => by
    simp only [List.length_cons] at hl
    obtain ⟨es, k, y5, e⟩ := draws_end S x2 x3 x4 is (ds ++ [((s * 48271 + 69621) % 2147483647) / 5]) ((s * 48271 + 69621) % 2147483647) (some (.val (eN i))) (by simp; omega)
    refine ⟨es, k, y5, ?_⟩
    rw [List.map_cons, forItems_cons]
    simp [oI, pInt_i, pRep_k, pMod_k, pDiv_k, app_i _ _ (show ds.length < 1000000 by omega)]
    simpa [oI] using e
theorem draws_ok (ns : List Int) (h : ns.length ≤ 63) : ∃ ds : List Int, F__law_draws [.list (ns.map .int)] = .ok (.own (oI ds)) := by
  obtain ⟨d1, y2, y3, y4, y5, l1, e1⟩ := draws_out (some (.val (.list (ns.map eI)))) none ns [] none none none none (by simp; omega)
  simp only [List.length_nil, Nat.zero_add] at l1
  have sd : ∃ s : Int, (mSeq (mSet 6 (sC (.int 1))) (mIf (bVal (sOp2 pGt (.ex (sN pLen2 [(.nm 0)])) (.ex (sC (.int 0))))) (mSet 6 (sOp2 pAdd (.ex (sC (.int 1))) (.ex (sN pAbs [(.ex (sOp2 pIx2 (.nm 0) (.ex (sC (.int 0)))))])))) mNext)) [some (.val (.list (ns.map eI))), some (.own (oI d1)), y2, y3, y4, y5, none] = .nx [some (.val (.list (ns.map eI))), some (.own (oI d1)), y2, y3, y4, y5, some (.val (.int s))] := by
    cases ns with
    | nil => exact ⟨1, by simp⟩
    | cons n ns =>
      have h0 : (0 : Int) < (ns.length : Int) + 1 := by omega
      exact ⟨1 + (if n < 0 then -n else n), by simp [h0, pAbs_i, eI]⟩
  obtain ⟨s, e2⟩ := sd
  obtain ⟨d2, k, z5, e3⟩ := draws_end (some (.val (.list (ns.map eI)))) y2 y3 y4 (List.range 900) d1 s y5 (by simp; omega)
  refine ⟨d2.reverse, ?_⟩
  have e0 : (0 : Nat) ≤ sizeLine := Nat.zero_le _
  have rg : ∀ ρ : Ev, sRange1 (aC (sC (.int 900)) aN) ρ = .ok ((List.range 900).map eN) ρ := fun ρ => sRange1_n (n := 900) (by simp) (by omega)
  unfold F__law_draws m__law_draws
  refine ofBody_rt (r := .own (oI d2.reverse)) (ρ := [some (.val (.list (ns.map eI))), some (.own (oI d2)), y2, y3, y4, z5, some (.val (.int k))]) ?_
  show (mSeq _ _) [some (.val (.list (ns.map eI))), none, none, none, none, none, none] = _
  rw [mSeq_ap, mSet_ap, sLst_ap, aN_ap, Res.bind_ok, List.length_nil, if_pos e0, Res.out_ok, Out.seq_nx, mSeq_ap, mFor_ap, sIt_ap, sVar_ap]
  simp only [List.set, List.getElem?_cons_zero, Res.bind_ok, frz_val, iterD_l, Res.out_ok]
  rw [show (some (Sl.own (Ob.lst [])) : Option Sl) = some (.own (oI [])) from rfl, e1, Out.seq_nx]
  rw [mSeq_ap] at e2 ⊢
  rw [seq_assoc, e2, Out.seq_nx, mSeq_ap, mFor_ap, rg, Res.out_ok, e3, Out.seq_nx, mRet_ap]
  simp [pRevL, oI]
theorem z1 : 1 ≤ sizeLine := sizeLine_big (by decide)
theorem z3 : 3 ≤ sizeLine := sizeLine_big (by decide)
theorem z6 : 6 ≤ sizeLine := sizeLine_big (by decide)
theorem z11 : 11 ≤ sizeLine := sizeLine_big (by decide)
def TakeOk (T : FnL) : Prop := ∀ (ds : List Int) (b : Int), 0 < b → ∃ (r : Int) (es : List Int), 0 ≤ r ∧ r < b ∧ T (oI ds) [.int b] = .ok (.val (.int r)) (.own (oI es))
theorem atI_mem {α : Type} {xs : List α} {i : Int} (h0 : 0 ≤ i) (h1 : i < xs.length) : ∃ x ∈ xs, L2.atI xs i = some x := by
  obtain ⟨k, rfl⟩ := Int.eq_ofNat_of_zero_le h0
  have hk : k < xs.length := by omega
  exact ⟨xs[k], List.getElem_mem hk, atI_lt hk⟩
theorem pAdd_tt (xs ys : List D) (h : xs.length + ys.length ≤ 1000000) : pAdd (.tuple xs) (.tuple ys) = some (.val (.tuple (xs ++ ys))) := by
  show (if xs.length + ys.length ≤ sizeLine then some (Sl.val (.tuple (xs ++ ys))) else none) = _
  rw [if_pos (sizeLine_big h)]
theorem pSl_t (lo hi : Option Int) (xs : List D) : pSl lo hi (.tuple xs) = some (.val (.tuple (cutD xs lo hi))) := rfl
theorem plainAll_app (xs ys : List D) : PyData.plainAll (xs ++ ys) = (PyData.plainAll xs && PyData.plainAll ys) := by
  induction xs with
  | nil => simp
  | cons x xs ih => simp [ih, Bool.and_assoc]
def SayOk (SY : Fn) : Prop := ∀ a b : Bool, SY [.bool a, .bool b] = .ok (.val (.bool (a == b)))
theorem nilF {α : Type} (xs : List α) : (xs.flatMap fun _ => ([] : List D)).length ≤ sizeLine := by
  have : (xs.flatMap fun _ => ([] : List D)) = [] := by
    induction xs with
    | nil => rfl
    | cons x xs ih => rw [List.flatMap_cons, ih]; rfl
  rw [this]
  exact Nat.zero_le _
theorem it_eT (th : List Bx) : iterD (eT th) = some (th.map eB) := rfl
theorem plain_boxes (xs : List Bx) : PyData.plainAll (xs.map eB) = true := plainAll_map eB plain_eB xs
theorem okEq_boxes (xs : List Bx) : okEq (.list (xs.map eB)) = true := by
  have h1 : (PyData.list (xs.map eB)).plain = true := by rw [plain_list]; exact plain_boxes xs
  have h2 : (PyData.list (xs.map eB)).depth ≤ 60 := by
    have := depth_mem (n := 4) (xs := xs.map eB) fun d hd => by
      obtain ⟨u, _, rfl⟩ := List.mem_map.mp hd
      exact depth_eB u
    simp only [PyData.depth]
    omega
  unfold okEq
  rw [h1, decide_eq_true h2]
  rfl
theorem filt_any {α β : Type} (xs : List α) (p : α → Bool) (f : α → β) : (!((xs.filter p).map f).isEmpty) = xs.any p := by
  induction xs with
  | nil => rfl
  | cons x xs ih =>
    rw [List.filter_cons, List.any_cons, ← ih]
    cases p x <;> simp
theorem eT_app (xs ys : List Bx) (h : xs.length + ys.length ≤ 1000000) : pAdd (eT xs) (eT ys) = some (.val (eT (xs ++ ys))) := by
  unfold eT
  rw [pAdd_tt _ _ (by simpa using h), List.map_append]
theorem pAdd_ll (xs ys : List D) (h : xs.length + ys.length ≤ 1000000) : pAdd (.list xs) (.list ys) = some (.own (.lst (xs ++ ys))) := by
  show (if xs.length + ys.length ≤ sizeLine then some (Sl.own (.lst (xs ++ ys))) else none) = _
  rw [if_pos (sizeLine_big h)]
theorem neNil (xs : List Bx) : pNe (.list (xs.map eB)) (.list []) = some (.val (.bool (!xs.isEmpty))) := by
  unfold pNe
  rw [okEq_boxes]
  have e : PyData.eqv (.list (xs.map eB)) (.list []) = xs.isEmpty := by cases xs <;> simp [PyData.eqv, PyData.eqvAll]
  rw [e]
  simp [vB, okEq, PyData.depth, PyData.depthAll]
def NoThing (d : D) : Prop := d.plain = true ∧ F_is_thing [d] = .ok (.val (.bool false))
theorem nt_none : NoThing .none := ⟨by simp, is_thing_no_tuple _ (by simp) rfl⟩
theorem nt_empty : NoThing (.tuple []) := ⟨by simp, is_thing_len [] (by simp) (by simp)⟩
theorem nt_list (th : List Bx) : NoThing (.list (th.map eB)) := by
  have h : (PyData.list (th.map eB)).plain = true := by rw [plain_list]; exact plain_boxes th
  exact ⟨h, is_thing_no_tuple _ h rfl⟩
theorem nt_bent (pre post : List Bx) (x : D) (h : x.plain = true) (hx : boxB x = false) (hl : pre.length + 1 + post.length ≤ 8) : NoThing (.tuple ((pre.map eB ++ [x]) ++ post.map eB)) := by
  have p : PyData.plainAll ((pre.map eB ++ [x]) ++ post.map eB) = true := by
    rw [plainAll_app, plainAll_app, plain_boxes, plain_boxes]
    simp [h]
  refine ⟨by rw [plain_tuple]; exact p, is_thing_bad _ p (by simp; omega) (by simp; omega) ?_⟩
  simp [hx]
theorem adj_bad (x y : Bx) (post : List Bx) (h : ltB x y = false) : ∀ pre : List Bx, (((pre ++ x :: y :: post).zip (pre ++ x :: y :: post).tail).all fun p => ltB p.1 p.2) = false
  | [] => by simp [h]
  | a :: pre => by
    have ih := adj_bad x y post h pre
    cases pre with
    | nil =>
      simp only [List.nil_append, List.cons_append, List.tail_cons] at ih ⊢
      rw [List.zip_cons_cons, List.all_cons, ih, Bool.and_false]
    | cons b pre =>
      simp only [List.nil_append, List.cons_append, List.tail_cons] at ih ⊢
      rw [List.zip_cons_cons, List.all_cons, ih, Bool.and_false]
theorem ltB_irr (x : Bx) : ltB x x = false := lt_irr _
theorem nt_adj (L : List Bx) (pre post : List Bx) (x y : Bx) (hL : L = pre ++ x :: y :: post) (h : ltB x y = false) (hl : L.length ≤ 8) (hb : ∀ b ∈ L, boxB (eB b) = true) : NoThing (eT L) := by
  refine ⟨plain_eT _, ?_⟩
  have adj : ((L.zip L.tail).all fun p => ltB p.1 p.2) = false := by rw [hL]; exact adj_bad x y post h pre
  cases L with
  | nil => cases pre <;> simp at hL
  | cons b bs =>
    rw [is_thing_T b bs hl (by rw [List.all_map, List.all_eq_true]; exact hb)]
    rw [List.tail_cons] at adj
    rw [adj, Bool.and_false]
theorem sT_to (pre rest : List Bx) (i : Nat) (h : i = pre.length) : pSl none (some (i : Int)) (eT (pre ++ rest)) = some (.val (eT pre)) := by
  show some (Sl.val (.tuple (cutD ((pre ++ rest).map eB) none (some (i : Int))))) = _
  rw [List.map_append, cutD_to _ _ i (by simp [h])]
  rfl
theorem sT_from1 (pre rest : List Bx) (r : Bx) (i : Nat) (h : i = pre.length) : pSl (some ((i : Int) + 1)) none (eT (pre ++ r :: rest)) = some (.val (eT rest)) := by
  show some (Sl.val (.tuple (cutD ((pre ++ r :: rest).map eB) (some ((i : Int) + 1)) none))) = _
  rw [show ((i : Int) + 1) = ((i + 1 : Nat) : Int) by omega, show pre ++ r :: rest = (pre ++ [r]) ++ rest by simp, List.map_append, cutD_from _ _ (i + 1) (by simp [h])]
  rfl
theorem cutD_last (xs : List D) (x : D) : cutD (xs ++ [x]) (some (-1)) none = [x] := by
  have e : HT.sIx (xs ++ [x]).length 0 (some (-1)) = xs.length := by
    simp [HT.sIx]
    omega
  unfold cutD
  rw [e, HT.sIx_none]
  simp
theorem sT_last (pre : List Bx) (r : Bx) : pSl (some (-1)) none (eT (pre ++ [r])) = some (.val (eT [r])) := by
  show some (Sl.val (.tuple (cutD ((pre ++ [r]).map eB) (some (-1)) none))) = _
  rw [List.map_append, List.map_cons, List.map_nil, cutD_last]
  rfl
theorem len_eT2 (th : List Bx) : pLen2 [eT th] = some (.val (.int th.length)) := by
  show some (Sl.val (.int ((th.map eB).length : Nat))) = _
  rw [List.length_map]
theorem z5 : 5 ≤ sizeLine := sizeLine_big (by decide)
theorem z7 : 7 ≤ sizeLine := sizeLine_big (by decide)
theorem chain_ok : ∀ L : List Bx, (L.Pairwise fun a b => ltB a b = true) → ((L.zip L.tail).all fun p => ltB p.1 p.2) = true
  | [], _ => rfl
  | [x], _ => rfl
  | x :: y :: r, h => by
    have h1 := List.pairwise_cons.mp h
    have ih := chain_ok (y :: r) h1.2
    rw [List.tail_cons] at ih ⊢
    rw [List.zip_cons_cons, List.all_cons, ih, Bool.and_true]
    exact h1.1 y (by simp)
theorem takes_are : TakeOk F__law_take := law_take
theorem says_are : SayOk F__law_says := law_says_bool
end Sd.K06
set_option Elab.async false
set_option linter.all false
set_option maxRecDepth 100000
set_option maxHeartbeats 4000000
set_option autoImplicit false
namespace Sd.K06
open PySem PySem.Spec PyProof.Rows L2 C8 Sd PySem.W

/-- low from -f to f, at most l long -/
def nearF (f l : Int) (p : Int × Int) : Prop := -f ≤ p.1 ∧ p.1 ≤ f ∧ p.1 < p.2 ∧ p.2 ≤ p.1 + l
theorem mul2k (f : Int) (h0 : 0 ≤ f) (h1 : f ≤ 1000) : pRep (.int 2) (.int f) = some (.val (.int (2 * f))) := pRep_k 2 f h0 (by omega)
theorem box_okF (f l : Int) (hf0 : 0 ≤ f) (hf1 : f ≤ 1000) (hl0 : 0 < l) (ds : List Int) (n : Nat) (hn : n ≤ 1000) : ∃ (b : Bx) (es : List Int), b.length = n ∧ (∀ p ∈ b, nearF f l p) ∧ F__law_box (oI ds) [.int (n : Int), .int f, .int l] = .ok (.val (eB b)) (.own (oI es)) := by
  have e0 : (0 : Nat) ≤ sizeLine := Nat.zero_le _
  have loop : ∀ (is : List Nat) (ds : List Int) (b : Bx) (x5 x6 : Option Sl), b.length + is.length ≤ 1000 → (∀ p ∈ b, nearF f l p) →
      ∃ (c : Bx) (es : List Int) (y5 y6 : Option Sl), c.length = b.length + is.length ∧ (∀ p ∈ c, nearF f l p) ∧ forItems (.nm 5) (mSeq (mSet 6 (sOp2 pSub (.ex (sCallL F__law_take 0 (aC (sOp2 pAdd (.ex (sOp2 pRep (.ex (sC (.int 2))) (.nm 2))) (.ex (sC (.int 1)))) aN))) (.nm 2))) (mDrop (sLM opAppend 4 (aC (sTup (aC (sVar 6) (aC (sOp2 pAdd (.ex (sOp2 pAdd (.nm 6) (.ex (sC (.int 1))))) (.ex (sCallL F__law_take 0 (aC (sVar 3) aN)))) aN))) aN)))) (is.map eN) [some (.own (oI ds)), some (.val (.int n)), some (.val (.int f)), some (.val (.int l)), some (.own (.lst (b.map eP))), x5, x6] =
        .nx [some (.own (oI es)), some (.val (.int n)), some (.val (.int f)), some (.val (.int l)), some (.own (.lst (c.map eP))), y5, y6] := by
    intro is
    induction is with
    | nil => intro ds b x5 x6 _ h; exact ⟨b, ds, x5, x6, by simp, h, rfl⟩
    | cons i is ih =>
      intro ds b x5 x6 hl hb
      simp only [List.length_cons] at hl
      obtain ⟨r, es, r1, r2, e1⟩ := law_take ds (2 * f + 1) (by omega)
      obtain ⟨s, fs, s1, s2, e2⟩ := law_take es l hl0
      have hz : b.length < sizeLine := by rw [sizeLine_eq]; omega
      obtain ⟨c, gs, y5, y6, l1, l2, e3⟩ := ih fs (b ++ [(r - f, r - f + 1 + s)]) (some (.val (eN i))) (some (.val (.int (r - f)))) (by simp; omega) (by
        intro p hp
        rcases List.mem_append.mp hp with hp | hp
        · exact hb p hp
        · simp at hp; subst hp; unfold nearF; simp; omega)
      refine ⟨c, gs, y5, y6, by rw [l1]; simp; omega, l2, ?_⟩
      rw [List.map_cons, forItems_cons]
      simp [mul2k f hf0 hf1, e1, e2, z2, opAppend, hz]
      simpa [eP] using e3
  obtain ⟨c, es, y5, y6, l1, l2, e⟩ := loop (List.range n) ds [] none none (by simpa using hn) (by simp)
  refine ⟨c, es, by simpa using l1, l2, ?_⟩
  simp only [List.map_nil] at e
  unfold F__law_box m__law_box
  refine Eq.trans (ofBodyL_rt [some (.own (oI ds)), some (.val (.int n)), some (.val (.int f)), some (.val (.int l)), none, none, none] [some (.own (oI es)), some (.val (.int n)), some (.val (.int f)), some (.val (.int l)), some (.own (.lst (c.map eP))), y5, y6] rfl ?_) rfl
  rw [mSeq_ap, mSet_ap, sLst_ap, aN_ap, Res.bind_ok, List.length_nil, if_pos e0, Res.out_ok, Out.seq_nx, mSeq_ap, mFor_ap, sRange1_s (n := n) (by simp) (by omega), Res.out_ok]
  simp only [List.set]
  rw [e, Out.seq_nx, mRet_ap, sN1_ap]
  simp [eB]
theorem boxes_compF (F : FnL) (n : Nat) (f l : Int) (hF : ∀ ds : List Int, ∃ (b : Bx) (es : List Int), b.length = n ∧ (∀ p ∈ b, nearF f l p) ∧ F (oI ds) [.int (n : Int), .int f, .int l] = .ok (.val (eB b)) (.own (oI es))) (bd : Sl) : ∀ (is : List Nat) (ds : List Int), ∃ (bs : List Bx) (es : List Int), bs.length = is.length ∧ (∀ b ∈ bs, b.length = n ∧ ∀ p ∈ b, nearF f l p) ∧
    compItems (.nm 6) bYes (emit1 (sCallL F 0 (aC (sVar 1) (aC (sVar 3) (aC (sVar 4) aN))))) (is.map eN) [some (.own (oI ds)), some (.val (.int n)), some bd, some (.val (.int f)), some (.val (.int l)), none, none, none] =
      .ok (bs.map eB) [some (.own (oI es)), some (.val (.int n)), some bd, some (.val (.int f)), some (.val (.int l)), none, none, none]
  | [], ds => ⟨[], ds, rfl, by simp, rfl⟩
  | i :: is, ds => by
    obtain ⟨b, es, hl, nr, e⟩ := hF ds
    obtain ⟨bs, fs, l2, nr2, e2⟩ := boxes_compF F n f l hF bd is es
    refine ⟨b :: bs, fs, by simp [l2], ?_, ?_⟩
    · intro c hc
      rcases List.mem_cons.mp hc with rfl | hc
      · exact ⟨hl, nr⟩
      · exact nr2 c hc
    · have tn : turnC (.nm 6) bYes (emit1 (sCallL F 0 (aC (sVar 1) (aC (sVar 3) (aC (sVar 4) aN))))) (eN i) [some (.own (oI ds)), some (.val (.int n)), some bd, some (.val (.int f)), some (.val (.int l)), none, none, none] = .ok [eB b] [some (.own (oI es)), some (.val (.int n)), some bd, some (.val (.int f)), some (.val (.int l)), none, none, none] := by
        simp [turnC, e]
      rw [List.map_cons, compItems_step, tn, Res.bind_ok, e2, Res.bind_ok]
      rfl
noncomputable def gThing (T B : FnL) : MS := (mSeq (mSet 5 (sListComp [6] ⟨(sRange1 (aC (sOp2 pAdd (.ex (sC (.int 1))) (.ex (sCallL T 0 (aC (sVar 2) aN)))) aN)), (.nm 6), bYes⟩ [] (sCallL B 0 (aC (sVar 1) (aC (sVar 3) (aC (sVar 4) aN)))))) (mRet (sN pTuple [(.ex (sN pSorted [(.ex (sN pListC2 [(.ex (sN pDictC [(.ex (sListComp [7] ⟨(sIt (sVar 5)), (.nm 7), bYes⟩ [] (sTup (aC (sVar 7) (aC (sC (.int 1)) aN)))))]))]))]))])))
theorem thing_is : F__law_thing = ofBodyL 3 (gThing F__law_take F__law_box) := rfl
theorem thing_gen (T B : FnL) (n : Nat) (f l : Int) (h0 : 0 < n) (hT : TakeOk T)
    (hB : ∀ ds : List Int, ∃ (b : Bx) (es : List Int), b.length = n ∧ (∀ p ∈ b, nearF f l p) ∧ B (oI ds) [.int (n : Int), .int f, .int l] = .ok (.val (eB b)) (.own (oI es))) (c : Nat) (hc : 0 < c) (hc2 : c ≤ 1000) (ds : List Int) :
    ∃ (th : List Bx) (es : List Int), 0 < th.length ∧ th.length ≤ c ∧ (∀ b ∈ th, b.length = n ∧ ∀ p ∈ b, nearF f l p) ∧ (th.Pairwise fun a b => ltB a b = true) ∧ ofBodyL 3 (gThing T B) (oI ds) [.int (n : Int), .int (c : Int), .int f, .int l] = .ok (.val (eT th)) (.own (oI es)) := by
  obtain ⟨r, es, r1, r2, e1⟩ := hT ds c (by omega)
  obtain ⟨bs, fs, l1, nr, e2⟩ := boxes_compF B n f l hB (.val (.int c)) (List.range (1 + r.toNat)) es
  rw [List.length_range] at l1
  obtain ⟨V, v1, v2, v3, e3⟩ := dictOf_eDB bs [] (by simp)
  obtain ⟨th, t1, t2, t3, t4⟩ := sort_boxes V v1
  simp only [List.length_nil, Nat.zero_add] at v3
  have hmem : ∀ b ∈ th, b ∈ bs := fun b hb => by simpa using (v2 b).mp ((t2 b).mp hb)
  refine ⟨th, fs, ?_, by omega, fun b hb => nr b (hmem b hb), t4, ?_⟩
  · cases bs with
    | nil => simp at l1; omega
    | cons b bs => exact List.length_pos_iff.mpr (List.ne_nil_of_mem ((t2 b).mpr ((v2 b).mpr (by simp))))
  · refine Eq.trans (ofBodyL_rt [some (.own (oI ds)), some (.val (.int n)), some (.val (.int c)), some (.val (.int f)), some (.val (.int l)), none, none, none] [some (.own (oI fs)), some (.val (.int n)), some (.val (.int c)), some (.val (.int f)), some (.val (.int l)), some (.val (.list (bs.map eB))), none, none] (r := .val (eT th)) rfl ?_) rfl
    have hz : bs.length ≤ sizeLine := sizeLine_big (by omega)
    have er : (1 : Int) + r = ((1 + r.toNat : Nat) : Int) := by omega
    have h1 : (sRange1 (aC (sOp2 pAdd (.ex (sC (.int 1))) (.ex (sCallL T 0 (aC (sVar 2) aN)))) aN)) [some (.own (oI ds)), some (.val (.int n)), some (.val (.int c)), some (.val (.int f)), some (.val (.int l)), none, none, none] = .ok ((List.range (1 + r.toNat)).map eN) [some (.own (oI es)), some (.val (.int n)), some (.val (.int c)), some (.val (.int f)), some (.val (.int l)), none, none, none] := by
      refine sRange1_n (n := 1 + r.toNat) ?_ (by omega)
      simp [e1, er]
    have h2 := sListComp_run (vs := [6]) (dc := ⟨(sRange1 (aC (sOp2 pAdd (.ex (sC (.int 1))) (.ex (sCallL T 0 (aC (sVar 2) aN)))) aN)), (.nm 6), bYes⟩) (dcs := []) (f := (sCallL B 0 (aC (sVar 1) (aC (sVar 3) (aC (sVar 4) aN))))) h1 e2 (by rw [List.length_map]; exact hz)
    unfold gThing
    rw [mSeq_ap, mSet_ap, h2, Res.out_ok, Out.seq_nx, mRet_ap]
    simp only [restoreE_cons, restoreE_nil, List.getElem?_cons_succ, List.getElem?_cons_zero, Option.getD_some, keepV_none, List.set]
    have h3 : sListComp [7] ⟨(sIt (sVar 5)), (.nm 7), bYes⟩ [] (sTup (aC (sVar 7) (aC (sC (.int 1)) aN))) [some (.own (oI fs)), some (.val (.int n)), some (.val (.int c)), some (.val (.int f)), some (.val (.int l)), some (.own (.lst (bs.map eB))), none, none] = .ok (.own (.lst (bs.map fun b => PyData.tuple [eB b, .int 1]))) [some (.own (oI fs)), some (.val (.int n)), some (.val (.int c)), some (.val (.int f)), some (.val (.int l)), some (.val (.list (bs.map eB))), none, none] := by
      rw [sLC_go [some (.own (oI fs)), some (.val (.int n)), some (.val (.int c)), some (.val (.int f)), some (.val (.int l)), some (.val (.list (bs.map eB))), none, none] bs eB (fun b => [PyData.tuple [eB b, .int 1]]), flatMap_one]
      · simp
      · simp
      · intro b _
        simp [turnC, z2]
      · rw [flatMap_one, List.length_map]; exact hz
    have h4 : pDictC [.list (bs.map fun b => PyData.tuple [eB b, .int 1])] = some (.own (.dct (eDB V))) := by
      show (pairsD (bs.map fun b => PyData.tuple [eB b, .int 1])).map _ = _
      rw [pairs_eDB, Option.map_some, ← e3]
      rfl
    have h5 : pListC2 [.dict (eDB V)] = some (.own (.lst (V.map eB))) := by
      show (if allTup (eDB V) = true then some (Sl.own (.lst ((eDB V).map (·.1)))) else none) = _
      rw [if_pos (allTup_eDB V)]
      simp [eDB, Function.comp_def]
    have h6 : pSorted [.list (V.map eB)] = some (.own (.lst (th.map eB))) := by
      unfold pSorted
      simp only
      rw [if_pos (sortOk_boxes V n h0 (fun b hb => (nr b (by simpa using (v2 b).mp hb)).1) (by omega)), t1]
    simp only [sN1_ap, ph1_ex, ph2_ex, h3, Res.bind_ok, frz_lst, Option.bind_some, h4, Res.ofO_some, frz_dct, h5, h6, pTuple_list, Res.out_ok]
    rfl
theorem law_thingF (f l : Int) (hf0 : 0 ≤ f) (hf1 : f ≤ 1000) (hl0 : 0 < l) (n : Nat) (h0 : 0 < n) (h1 : n ≤ 1000) (c : Nat) (hc : 0 < c) (hc2 : c ≤ 1000) (ds : List Int) :
    ∃ (th : List Bx) (es : List Int), 0 < th.length ∧ th.length ≤ c ∧ (∀ b ∈ th, b.length = n ∧ ∀ p ∈ b, nearF f l p) ∧ (th.Pairwise fun a b => ltB a b = true) ∧ F__law_thing (oI ds) [.int (n : Int), .int (c : Int), .int f, .int l] = .ok (.val (eT th)) (.own (oI es)) := by
  rw [thing_is]
  exact thing_gen F__law_take F__law_box n f l h0 law_take (fun ds => box_okF f l hf0 hf1 hl0 ds n h1) c hc hc2 ds
/-- a drawn thing -/
def ThOk (n : Nat) (th : List Bx) : Prop := 0 < th.length ∧ th.length ≤ 8 ∧ (∀ b ∈ th, b.length = n ∧ ∀ p ∈ b, -100 ≤ p.1 ∧ p.1 < p.2 ∧ p.2 ≤ 100) ∧ (th.Pairwise fun a b => ltB a b = true)
theorem nearF_in {f l : Int} {p : Int × Int} (hf : f ≤ 50) (hl : l ≤ 50) (h : nearF f l p) : -100 ≤ p.1 ∧ p.1 < p.2 ∧ p.2 ≤ 100 := by
  unfold nearF at h
  omega
theorem box_in {b : Bx} (hl : b.length = 2 ∨ b.length = 3) (h : ∀ p ∈ b, -100 ≤ p.1 ∧ p.1 < p.2 ∧ p.2 ≤ 100) : boxB (eB b) = true := by
  unfold eB boxB
  rw [Bool.and_eq_true]
  refine ⟨by simpa using hl, ?_⟩
  rw [List.all_map, List.all_eq_true]
  intro p hp
  have := h p hp
  simp only [Function.comp_apply, eP, stretchB, Bool.and_eq_true, decide_eq_true_eq]
  omega
theorem thing_true {n : Nat} {th : List Bx} (hn : n = 2 ∨ n = 3) (h : ThOk n th) : F_is_thing [eT th] = .ok (.val (.bool true)) := by
  obtain ⟨q1, q2, q3, q4⟩ := h
  cases th with
  | nil => cases q1
  | cons b bs =>
    rw [is_thing_T b bs (by omega) (by
      rw [List.all_map, List.all_eq_true]
      intro c hc
      exact box_in (by rw [(q3 c hc).1]; exact hn) (q3 c hc).2)]
    have c1 := chain_ok _ q4
    rw [List.tail_cons] at c1
    have c2 : ((b :: bs).all fun c => c.length == b.length) = true := by
      rw [List.all_eq_true]
      intro c hc
      rw [(q3 c hc).1, (q3 b (by simp)).1]
      simp
    rw [c1, c2]
    rfl
end Sd.K06
set_option Elab.async false
set_option linter.all false
set_option maxRecDepth 100000
set_option maxHeartbeats 4000000
set_option autoImplicit false
namespace Sd.K06
open PySem PySem.Spec PyProof.Rows L2 C8 Sd PySem.W

@[simp] theorem sCallX_ap (F : Fn) (as : M (List D)) (ρ : Ev) : sCallX F as ρ = (as ρ).bind fun ds ρ' => match F ds with
  | .ok r => .ok r ρ'
  | .exc x => .exc x ρ'
  | .bad => .bad := Eq.trans rfl rfl
@[simp] theorem mRaise_ap (x : Str) (ρ : Ev) : mRaise x ρ = .exc x ρ := Eq.trans rfl rfl
@[simp] theorem sZip3_ap (as : M (List D)) (ρ : Ev) : sZip3 as ρ = (as ρ).bind fun ds ρ' => Res.ofO (zip3Of ds) ρ' := Eq.trans rfl rfl
@[simp] theorem Res.out_exc {α : Type} (e : Str) (ρ : Ev) (f : α → Ev → Out) : (Res.exc e ρ : Res α).out f = .exc e ρ := rfl
@[simp] theorem Out.seq_exc (e : Str) (ρ : Ev) (n : MS) : (Out.exc e ρ).seq n = .exc e ρ := rfl
@[simp] theorem Out.seq_rt (r : Sl) (ρ : Ev) (n : MS) : (Out.rt r ρ).seq n = .rt r ρ := rfl
theorem ofBody_exc {k : Nat} {m : MS} {ds : List D} {x : Str} {ρ : Ev} (h : m (ds.map (fun d => some (.val d)) ++ List.replicate k none) = .exc x ρ) : ofBody k m ds = .exc x := by
  unfold ofBody; rw [h]
theorem ofBody_nx {k : Nat} {m : MS} {ds : List D} {ρ : Ev} (h : m (ds.map (fun d => some (.val d)) ++ List.replicate k none) = .nx ρ) : ofBody k m ds = .ok (.val .none) := by
  unfold ofBody; rw [h]
abbrev Ws := List (Str × List Bx)
def eW (p : Str × List Bx) : D := .tuple [.str p.1, eT p.2]
def eSc (n : Nat) (ws : Ws) : D := .tuple [.int (n : Int), .tuple (ws.map eW)]
def wallsL (ws : Ws) : List Bx := ws.flatMap (·.2)
def barB (w b : Bx) : Bx := (w.zip b).map fun p => (p.1.1 - p.2.2, p.1.2 - p.2.1)
def barL (W th : List Bx) : List Bx := W.flatMap fun w => th.map (barB w)
theorem sc0 (n : Nat) (ws : Ws) : pIx2 (eSc n ws) (.int 0) = some (.val (.int (n : Int))) := by simp [eSc]
theorem sc1 (n : Nat) (ws : Ws) : pIx2 (eSc n ws) (.int 1) = some (.val (.tuple (ws.map eW))) := by simp [eSc]
theorem flat_len (ws : Ws) : (ws.flatMap fun p => p.2.map eB) = (wallsL ws).map eB := by
  unfold wallsL
  rw [map_flatMap']
theorem walls_ok (n : Nat) (ws : Ws) (hl : (wallsL ws).length ≤ 1000000) : F_walls_of [eSc n ws] = .ok (.val (eT (wallsL ws))) := by
  unfold F_walls_of m_walls_of
  refine ofBody_ret0 [some (.val (eSc n ws)), none, none, none] rfl ?_
  have h : sListComp [1, 2, 3] ⟨(sIt (sOp2 pIx2 (.nm 0) (.ex (sC (.int 1))))), (.tup [(.nm 1), (.nm 2)]), bYes⟩ [⟨(sIt (sVar 2)), (.nm 3), bYes⟩] (sVar 3) [some (.val (eSc n ws)), none, none, none] = .ok (.own (.lst ((wallsL ws).map eB))) [some (.val (eSc n ws)), none, none, none] := by
    rw [← flat_len]
    refine sLC_map ws eW _ ?_ ?_ ?_ ?_
    · simp [sc1]
    · simp
    · intro p hp
      have hi : compItems (.nm 3) bYes (emit1 (sVar 3)) (p.2.map eB) [some (.val (eSc n ws)), some (.val (.str p.1)), some (.val (eT p.2)), none] = .ok (p.2.flatMap fun b => [eB b]) [some (.val (eSc n ws)), some (.val (.str p.1)), some (.val (eT p.2)), none] := by
        refine compItems_map eB ?_
        intro b _
        simp [turnC]
      rw [flatMap_one] at hi
      simp [turnC, eW, compGo_cons, iterD_T, hi]
    · rw [flat_len, List.length_map]
      exact sizeLine_big hl
  rw [sN1_ap, ph1_ex, h]
  simp [eT]
theorem check_ok (n : Nat) (ws : Ws) (d : D) (h1 : F_is_thing [d] = .ok (.val (.bool true))) (h2 : F_dimension [d] = .ok (.val (.int (n : Int)))) : F_check_pair [eSc n ws, d] = .ok (.val .none) := by
  unfold F_check_pair m_check_pair
  refine ofBody_nx (ρ := [some (.val (eSc n ws)), some (.val d)]) ?_
  simp [h1, h2, sc0]
theorem check_bad1 (n : Nat) (ws : Ws) (d : D) (h1 : F_is_thing [d] = .ok (.val (.bool false))) : F_check_pair [eSc n ws, d] = .exc "Malformed" := by
  unfold F_check_pair m_check_pair
  refine ofBody_exc (ρ := [some (.val (eSc n ws)), some (.val d)]) ?_
  simp [h1]
theorem check_bad2 (n m : Nat) (ws : Ws) (d : D) (hm : m ≠ n) (h1 : F_is_thing [d] = .ok (.val (.bool true))) (h2 : F_dimension [d] = .ok (.val (.int (m : Int)))) : F_check_pair [eSc n ws, d] = .exc "Malformed" := by
  have : ((m : Int) == (n : Int)) = false := by simp; omega
  unfold F_check_pair m_check_pair
  refine ofBody_exc (ρ := [some (.val (eSc n ws)), some (.val d)]) ?_
  simp [h1, h2, sc0, this]
theorem zip_nest (w b : Bx) : zipOf [eB w, eB b] = some ((w.zip b).map fun p => .tuple [eP p.1, eP p.2]) := by
  unfold eB
  rw [zipOf_t, zipD_map]
theorem barred_ok (n : Nat) (ws : Ws) (th : List Bx) (hc : F_check_pair [eSc n ws, eT th] = .ok (.val .none)) (hl : (wallsL ws).length ≤ 1000) (hl2 : th.length ≤ 1000) (hlb : ∀ w ∈ wallsL ws, w.length ≤ 1000) : F_barred_boxes [eSc n ws, eT th] = .ok (.val (eT (barL (wallsL ws) th))) := by
  have inner : ∀ (w : Bx), w.length ≤ 1000 → ∀ (bs acc : List Bx) (x4 : Option Sl), acc.length + bs.length ≤ 2000000 → ∃ y4 : Option Sl,
      forItems (.nm 4) (mDrop (sLM opAppend 2 (aC (sN pTuple [(.ex (sListComp [5, 6, 7] ⟨(sZip (aC (sVar 3) (aC (sVar 4) aN))), (.tup [(.tup [(.nm 5), (.nm 6)]), (.nm 7)]), bYes⟩ [] (sTup (aC (sOp2 pSub (.nm 5) (.ex (sOp2 pIx2 (.nm 7) (.ex (sC (.int 1)))))) (aC (sOp2 pSub (.nm 6) (.ex (sOp2 pIx2 (.nm 7) (.ex (sC (.int 0)))))) aN)))))]) aN))) (bs.map eB) [some (.val (eSc n ws)), some (.val (eT th)), some (.own (.lst (acc.map eB))), some (.val (eB w)), x4, none, none, none] =
        .nx [some (.val (eSc n ws)), some (.val (eT th)), some (.own (.lst ((acc ++ bs.map (barB w)).map eB))), some (.val (eB w)), y4, none, none, none] := by
    intro w hw bs
    induction bs with
    | nil => intro acc x4 _; exact ⟨x4, by simp [forItems_nil]⟩
    | cons b bs ih =>
      intro acc x4 hz
      simp only [List.length_cons] at hz
      obtain ⟨y4, e⟩ := ih (acc ++ [barB w b]) (some (.val (eB b))) (by simp; omega)
      refine ⟨y4, ?_⟩
      have h : sListComp [5, 6, 7] ⟨(sZip (aC (sVar 3) (aC (sVar 4) aN))), (.tup [(.tup [(.nm 5), (.nm 6)]), (.nm 7)]), bYes⟩ [] (sTup (aC (sOp2 pSub (.nm 5) (.ex (sOp2 pIx2 (.nm 7) (.ex (sC (.int 1)))))) (aC (sOp2 pSub (.nm 6) (.ex (sOp2 pIx2 (.nm 7) (.ex (sC (.int 0)))))) aN))) [some (.val (eSc n ws)), some (.val (eT th)), some (.own (.lst (acc.map eB))), some (.val (eB w)), some (.val (eB b)), none, none, none] =
          .ok (.own (.lst ((w.zip b).map fun p => eP (p.1.1 - p.2.2, p.1.2 - p.2.1)))) [some (.val (eSc n ws)), some (.val (eT th)), some (.own (.lst (acc.map eB))), some (.val (eB w)), some (.val (eB b)), none, none, none] := by
        refine sLC_one (w.zip b) (fun p => .tuple [eP p.1, eP p.2]) _ ?_ ?_ ?_ ?_
        · simp only [sZip_ap, aC_ap, aN_ap, sVar_ap, List.getElem?_cons_succ, List.getElem?_cons_zero, Res.bind_ok, frz_val, zip_nest, Res.ofO_some]
        · simp
        · intro p _
          simp [turnC, eP, z2]
        · refine sizeLine_big ?_
          simp
          omega
      have he : PyData.tuple ((w.zip b).map fun p => eP (p.1.1 - p.2.2, p.1.2 - p.2.1)) = eB (barB w b) := by simp [eB, barB]
      have hsz : (acc.map eB).length < sizeLine := by rw [List.length_map, sizeLine_eq]; omega
      rw [List.map_cons, forItems_cons]
      simp only [assignT_nm, List.set, mDrop_ap, sLM_ap, List.getElem?_cons_succ, List.getElem?_cons_zero, aC_ap, sN1_ap, ph1_ex, ph2_ex, h, Res.bind_ok, frz_lst, Option.bind_some, pTuple_list, he, Res.ofO_some, aN_ap, frz_val, opAppend, if_pos hsz, Res.out_ok, Out.turn_nx]
      rw [show acc.map eB ++ [eB (barB w b)] = (acc ++ [barB w b]).map eB by simp, e]
      simp
  have outer : ∀ (W acc : List Bx) (x3 x4 : Option Sl), (∀ w ∈ W, w.length ≤ 1000) → acc.length + W.length * 1000 ≤ 1000000 → ∃ y3 y4 : Option Sl,
      forItems (.nm 3) (mFor (sIt (sVar 1)) (.nm 4) (mDrop (sLM opAppend 2 (aC (sN pTuple [(.ex (sListComp [5, 6, 7] ⟨(sZip (aC (sVar 3) (aC (sVar 4) aN))), (.tup [(.tup [(.nm 5), (.nm 6)]), (.nm 7)]), bYes⟩ [] (sTup (aC (sOp2 pSub (.nm 5) (.ex (sOp2 pIx2 (.nm 7) (.ex (sC (.int 1)))))) (aC (sOp2 pSub (.nm 6) (.ex (sOp2 pIx2 (.nm 7) (.ex (sC (.int 0)))))) aN)))))]) aN)))) (W.map eB) [some (.val (eSc n ws)), some (.val (eT th)), some (.own (.lst (acc.map eB))), x3, x4, none, none, none] =
        .nx [some (.val (eSc n ws)), some (.val (eT th)), some (.own (.lst ((acc ++ barL W th).map eB))), y3, y4, none, none, none] := by
    intro W
    induction W with
    | nil => intro acc x3 x4 _ _; exact ⟨x3, x4, by simp [forItems_nil, barL]⟩
    | cons w W ih =>
      intro acc x3 x4 hw hz
      simp only [List.length_cons] at hz
      obtain ⟨y4, e⟩ := inner w (hw w (by simp)) th acc x4 (by omega)
      obtain ⟨z3, z4, e2⟩ := ih (acc ++ th.map (barB w)) (some (.val (eB w))) y4 (fun x hx => hw x (by simp [hx])) (by simp; omega)
      refine ⟨z3, z4, ?_⟩
      rw [List.map_cons, forItems_cons]
      simp only [assignT_nm, List.set, mFor_ap, sIt_ap, sVar_ap, List.getElem?_cons_succ, List.getElem?_cons_zero, Res.bind_ok, frz_val, iterD_T, Res.out_ok, e, Out.turn_nx, e2]
      simp [barL]
  obtain ⟨y3, y4, e⟩ := outer (wallsL ws) [] none none hlb (by simp; omega)
  have e0 : (0 : Nat) ≤ sizeLine := Nat.zero_le _
  have hw := walls_ok n ws (by omega)
  unfold F_barred_boxes m_barred_boxes
  refine ofBody_rt (ρ := [some (.val (eSc n ws)), some (.val (eT th)), some (.own (.lst ((barL (wallsL ws) th).map eB))), y3, y4, none, none, none]) ?_
  simp only [List.map_cons, List.map_nil, List.replicate, List.cons_append, List.nil_append, mSeq_ap, mDrop_ap, sCallX_ap, aC_ap, aN_ap, sVar_ap, List.getElem?_cons_zero, List.getElem?_cons_succ, Res.bind_ok, frz_val, hc, Res.out_ok, Out.seq_nx, mSet_ap, sLst_ap, List.length_nil, if_pos e0, List.set, mFor_ap, sIt_ap, sCall_ap, hw, iterD_T]
  simp only [List.map_nil, List.nil_append] at e
  rw [e, Out.seq_nx, mRet_ap, sN1_ap]
  simp [eT]
theorem barred_bad (sc d : D) (x : Str) (h : F_check_pair [sc, d] = .exc x) : F_barred_boxes [sc, d] = .exc x := by
  unfold F_barred_boxes m_barred_boxes
  refine ofBody_exc (ρ := [some (.val sc), some (.val d), none, none, none, none, none, none]) ?_
  simp only [List.map_cons, List.map_nil, List.replicate, List.cons_append, List.nil_append, mSeq_ap, mDrop_ap, sCallX_ap, aC_ap, aN_ap, sVar_ap, List.getElem?_cons_zero, List.getElem?_cons_succ, Res.bind_ok, frz_val, h, Res.out_exc, Out.seq_exc]
end Sd.K06
set_option Elab.async false
set_option linter.all false
set_option maxRecDepth 100000
set_option maxHeartbeats 4000000
set_option autoImplicit false
namespace Sd.K06
open PySem PySem.Spec PyProof.Rows L2 C8 Sd PySem.W

theorem placeB_eV {n : Nat} {d : D} (h : placeB n d = true) : ∃ v : List Int, d = eV v ∧ v.length = n ∧ ∀ x ∈ v, -4000 ≤ x ∧ x ≤ 4000 := by
  unfold placeB at h
  split at h
  · rename_i xs
    rw [Bool.and_eq_true, beq_iff_eq] at h
    obtain ⟨hl, ha⟩ := h
    have key : ∀ xs : List D, xs.all (numB (-4000) 4000) = true → ∃ v : List Int, xs = v.map eI ∧ ∀ x ∈ v, -4000 ≤ x ∧ x ≤ 4000 := by
      intro xs
      induction xs with
      | nil => exact fun _ => ⟨[], rfl, by simp⟩
      | cons x xs ih =>
        intro h
        rw [List.all_cons, Bool.and_eq_true] at h
        obtain ⟨v, rfl, h2⟩ := ih h.2
        have h1 := h.1
        unfold numB at h1
        split at h1
        · rename_i i
          rw [Bool.and_eq_true, decide_eq_true_eq, decide_eq_true_eq] at h1
          refine ⟨i :: v, rfl, ?_⟩
          intro y hy
          rcases List.mem_cons.mp hy with rfl | hy
          · exact h1
          · exact h2 y hy
        · cases h1
    obtain ⟨v, rfl, h2⟩ := key xs ha
    exact ⟨v, rfl, by simpa using hl, h2⟩
  · cases h
theorem placeB_of {n : Nat} {v : List Int} (hl : v.length = n) (h : ∀ x ∈ v, -4000 ≤ x ∧ x ≤ 4000) : placeB n (eV v) = true := by
  unfold placeB eV
  rw [Bool.and_eq_true, beq_iff_eq]
  refine ⟨by simpa using hl, ?_⟩
  rw [List.all_map, List.all_eq_true]
  intro x hx
  have := h x hx
  simp only [Function.comp_apply, eI, numB, Bool.and_eq_true, decide_eq_true_eq]
  exact this
/-- whether a place is barred by none -/
def freeB (bs : List Bx) (v : List Int) : Bool := !(bs.any fun b => holdsB b v)
theorem any_holds (bs : List Bx) (v : List Int) {ρ : Ev} {i : Nat} {it : M (List D)} {A : M (List D)} (h1 : it ρ = .ok (bs.map eB) ρ) (hr : restoreE ρ (wipeE ρ [i]) [i] = ρ)
    (h2 : ∀ b ∈ bs, ∃ ρ', turnA (.nm i) bYes (anyGo true (sCall F_holds A) []) (eB b) (wipeE ρ [i]) = .ok (holdsB b v) ρ' ∧ (holdsB b v = false → wipeE ρ' (Tgt.nm i).slots = wipeE ρ [i]) ∧ restoreE ρ ρ' [i] = ρ) :
    sAny false [i] ⟨it, .nm i, bYes⟩ [] (sCall F_holds A) ρ = .ok (.val (.bool (bs.any fun b => holdsB b v))) ρ := sAny_map bs eB _ h1 hr h2
theorem clear_ok (n : Nat) (ws : Ws) (d : D) (bs : List Bx) (v : List Int) (hb : F_barred_boxes [eSc n ws, d] = .ok (.val (eT bs))) (hp : F_is_place [eV v, .int (n : Int)] = .ok (.val (.bool true))) : F_is_clear [eSc n ws, d, eV v] = .ok (.val (.bool (freeB bs v))) := by
  have h := any_holds bs v (ρ := [some (.val (eSc n ws)), some (.val d), some (.val (eV v)), some (.val (eT bs)), none]) (i := 4) (it := sIt (sVar 3)) (A := aC (sVar 4) (aC (sVar 2) aN)) (by simp [iterD_T]) (by simp) (by
    intro b _
    refine ⟨[some (.val (eSc n ws)), some (.val d), some (.val (eV v)), some (.val (eT bs)), some (.val (eB b))], ?_, fun _ => rfl, rfl⟩
    simp [turnA, holds_ok])
  unfold F_is_clear m_is_clear
  refine ofBody_rt (ρ := [some (.val (eSc n ws)), some (.val d), some (.val (eV v)), some (.val (eT bs)), none]) ?_
  simp only [List.map_cons, List.map_nil, List.replicate, List.cons_append, List.nil_append, mSeq_ap, mSet_ap, sCallX_ap, aC_ap, aN_ap, sVar_ap, List.getElem?_cons_zero, List.getElem?_cons_succ, Res.bind_ok, frz_val, hb, Res.out_ok, List.set, Out.seq_nx, mIf_ap, bNot_ap, bTru_ap, ph1_ex, ph2_ex, sCall_ap, sOp2_ap, ph1_nm, ph2_nm, sC_ap, Option.bind_some, sc0, Res.ofO_some, hp, truD_bool, Bool.not_true, Bool.false_eq_true, if_false, mNext_ap, mRet_ap, sNot_ap, h, boolD_b]
  rfl
theorem clear_form (n : Nat) (ws : Ws) (d p : D) (bs : List Bx) (hb : F_barred_boxes [eSc n ws, d] = .ok (.val (eT bs))) (hp : F_is_place [p, .int (n : Int)] = .ok (.val (.bool false))) : F_is_clear [eSc n ws, d, p] = .exc "Malformed" := by
  unfold F_is_clear m_is_clear
  refine ofBody_exc (ρ := [some (.val (eSc n ws)), some (.val d), some (.val p), some (.val (eT bs)), none]) ?_
  simp only [List.map_cons, List.map_nil, List.replicate, List.cons_append, List.nil_append, mSeq_ap, mSet_ap, sCallX_ap, aC_ap, aN_ap, sVar_ap, List.getElem?_cons_zero, List.getElem?_cons_succ, Res.bind_ok, frz_val, hb, Res.out_ok, List.set, Out.seq_nx, mIf_ap, bNot_ap, bTru_ap, ph1_ex, ph2_ex, sCall_ap, sOp2_ap, ph1_nm, ph2_nm, sC_ap, Option.bind_some, sc0, Res.ofO_some, hp, truD_bool, Bool.not_false, if_true, mRaise_ap, Out.seq_exc]
theorem clear_bad (sc d p : D) (x : Str) (h : F_barred_boxes [sc, d] = .exc x) : F_is_clear [sc, d, p] = .exc x := by
  unfold F_is_clear m_is_clear
  refine ofBody_exc (ρ := [some (.val sc), some (.val d), some (.val p), none, none]) ?_
  simp only [List.map_cons, List.map_nil, List.replicate, List.cons_append, List.nil_append, mSeq_ap, mSet_ap, sCallX_ap, aC_ap, aN_ap, sVar_ap, List.getElem?_cons_zero, List.getElem?_cons_succ, Res.bind_ok, frz_val, h, Res.out_exc, Out.seq_exc]
theorem way_bad (sc d p : D) (x : Str) (h : F_barred_boxes [sc, d] = .exc x) : F_is_way [sc, d, p] = .exc x := by
  unfold F_is_way m_is_way
  refine ofBody_exc (ρ := [some (.val sc), some (.val d), some (.val p), none, none, none, none]) ?_
  simp only [List.map_cons, List.map_nil, List.replicate, List.cons_append, List.nil_append, mSeq_ap, mSet_ap, sCallX_ap, aC_ap, aN_ap, sVar_ap, List.getElem?_cons_zero, List.getElem?_cons_succ, Res.bind_ok, frz_val, h, Res.out_exc, Out.seq_exc]
/-! shifts -/
def meetsB (b : Bx) (v w : List Int) : Bool := (b.zip (v.zip w)).all fun p => decide (min p.2.1 p.2.2 < p.1.2) && decide (p.1.1 < max p.2.1 p.2.2)
theorem zw {α β γ : Type} (f : α → β → γ) (xs : List α) (ys : List β) : List.zipWith f xs ys = (xs.zip ys).map fun p => f p.1 p.2 := by rw [List.zip, List.map_zipWith]
theorem zip3_ok (b : Bx) (v w : List Int) : zip3Of [eB b, eV v, eV w] = some ((b.zip (v.zip w)).map fun p => .tuple [eP p.1, eI p.2.1, eI p.2.2]) := by
  unfold eB eV zip3Of zip3D
  simp only
  rw [show (v.map eI).zip (w.map eI) = (v.zip w).map fun p => (eI p.1, eI p.2) by rw [List.zip_map]; rfl, List.zipWith_map, zw]
theorem meets_ok (b : Bx) (v w : List Int) : F_meets [eB b, eV v, eV w] = .ok (.val (.bool (meetsB b v w))) := by
  have loop : ∀ (l : List ((Int × Int) × (Int × Int))) (x3 x4 x5 x6 : Option Sl), ∃ y3 y4 y5 y6 : Option Sl,
      forItems (.tup [(.tup [(.nm 3), (.nm 4)]), (.nm 5), (.nm 6)]) (mIf (bNot (bAnd (bVal (sOp2 pLt (.ex (sN pMin [(.nm 5), (.nm 6)])) (.nm 4))) (bVal (sOp2 pLt (.nm 3) (.ex (sN pMax [(.nm 5), (.nm 6)])))))) (mRet (sC (.bool false))) mNext) (l.map fun p => .tuple [eP p.1, eI p.2.1, eI p.2.2]) [some (.val (eB b)), some (.val (eV v)), some (.val (eV w)), x3, x4, x5, x6] =
        (if (l.all fun p => decide (min p.2.1 p.2.2 < p.1.2) && decide (p.1.1 < max p.2.1 p.2.2)) = true then .nx [some (.val (eB b)), some (.val (eV v)), some (.val (eV w)), y3, y4, y5, y6] else .rt (.val (.bool false)) [some (.val (eB b)), some (.val (eV v)), some (.val (eV w)), y3, y4, y5, y6]) := by
    intro l
    induction l with
    | nil => intro x3 x4 x5 x6; exact ⟨x3, x4, x5, x6, by simp [forItems_nil]⟩
    | cons p l ih =>
      intro x3 x4 x5 x6
      by_cases h1 : min p.2.1 p.2.2 < p.1.2
      · by_cases h2 : p.1.1 < max p.2.1 p.2.2
        · obtain ⟨y3, y4, y5, y6, e⟩ := ih (some (.val (.int p.1.1))) (some (.val (.int p.1.2))) (some (.val (.int p.2.1))) (some (.val (.int p.2.2)))
          refine ⟨y3, y4, y5, y6, ?_⟩
          rw [List.all_cons, decide_eq_true h1, decide_eq_true h2, Bool.true_and, Bool.true_and, List.map_cons, forItems_cons, ← e]
          simp [eP, eI, h1, h2]
        · refine ⟨some (.val (.int p.1.1)), some (.val (.int p.1.2)), some (.val (.int p.2.1)), some (.val (.int p.2.2)), ?_⟩
          rw [List.all_cons, decide_eq_true h1, decide_eq_false h2, Bool.and_false, Bool.false_and, List.map_cons, forItems_cons]
          simp [eP, eI, h1, h2]
      · refine ⟨some (.val (.int p.1.1)), some (.val (.int p.1.2)), some (.val (.int p.2.1)), some (.val (.int p.2.2)), ?_⟩
        rw [List.all_cons, decide_eq_false h1, Bool.false_and, Bool.false_and, List.map_cons, forItems_cons]
        simp [eP, eI, h1]
  obtain ⟨y3, y4, y5, y6, e⟩ := loop (b.zip (v.zip w)) none none none none
  unfold F_meets m_meets
  refine ofBody_rt (ρ := [some (.val (eB b)), some (.val (eV v)), some (.val (eV w)), y3, y4, y5, y6]) ?_
  simp only [List.map_cons, List.map_nil, List.replicate, List.cons_append, List.nil_append, mSeq_ap, mFor_ap, sZip3_ap, aC_ap, aN_ap, sVar_ap, List.getElem?_cons_zero, List.getElem?_cons_succ, Res.bind_ok, frz_val, zip3_ok, Res.ofO_some, Res.out_ok, e]
  unfold meetsB
  cases hq : (b.zip (v.zip w)).all fun p => decide (min p.2.1 p.2.2 < p.1.2) && decide (p.1.1 < max p.2.1 p.2.2) with
  | true => simp
  | false => simp
def diffN (v w : List Int) : Nat := ((v.zip w).filter fun p => !(p.1 == p.2)).length
def shiftB (bs : List Bx) (v w : List Int) : Bool := (diffN v w == 1) && !(bs.any fun b => meetsB b v w)
theorem zipOf_VV (v w : List Int) : zipOf [eV v, eV w] = some ((v.zip w).map fun p => .tuple [eI p.1, eI p.2]) := by
  unfold eV
  rw [zipOf_t, zipD_map]
theorem sum_one : ∀ l : List (Int × Int), (l.map fun _ => (1 : Int)).sum = l.length
  | [] => rfl
  | x :: l => by
    rw [List.map_cons, List.sum_cons, sum_one l, List.length_cons]
    omega
theorem sum_ones (l : List (Int × Int)) : pSum [.list (l.map fun _ => PyData.int 1)] = some (.val (.int l.length)) := by
  have h : intsD (l.map fun _ => PyData.int 1) = some (l.map fun _ => (1 : Int)) := by
    have := ints_map (l.map fun _ => (1 : Int))
    rw [List.map_map] at this
    exact this
  have hs := sum_one l
  simp only [pSum, h, Option.bind_some, hs]
  rfl
theorem shift_ok (bs : List Bx) (v w : List Int) (hl : v.length ≤ 1000) (it : D) (hit : iterD it = some (bs.map eB)) : F_is_shift_clear [it, eV v, eV w] = .ok (.val (.bool (shiftB bs v w))) := by
  have h1 : sListComp [3, 4] ⟨(sZip (aC (sVar 1) (aC (sVar 2) aN))), (.tup [(.nm 3), (.nm 4)]), (bVal (sOp2 pNe (.nm 3) (.nm 4)))⟩ [] (sC (.int 1)) [some (.val it), some (.val (eV v)), some (.val (eV w)), none, none, none] = .ok (.own (.lst (((v.zip w).filter fun p => !(p.1 == p.2)).map fun _ => PyData.int 1))) [some (.val it), some (.val (eV v)), some (.val (eV w)), none, none, none] := by
    refine sLC_if (v.zip w) (fun p => .tuple [eI p.1, eI p.2]) _ _ ?_ ?_ ?_ ?_
    · simp only [sZip_ap, aC_ap, aN_ap, sVar_ap, List.getElem?_cons_succ, List.getElem?_cons_zero, Res.bind_ok, frz_val, zipOf_VV, Res.ofO_some]
    · simp
    · intro p _
      by_cases hp : p.1 = p.2 <;> simp [turnC, eI, hp]
    · refine sizeLine_big ?_
      rw [List.length_zip]
      omega
  have h2 : sAny false [5] ⟨(sIt (sVar 0)), (.nm 5), bYes⟩ [] (sCall F_meets (aC (sVar 5) (aC (sVar 1) (aC (sVar 2) aN)))) [some (.val it), some (.val (eV v)), some (.val (eV w)), none, none, none] = .ok (.val (.bool (bs.any fun b => meetsB b v w))) [some (.val it), some (.val (eV v)), some (.val (eV w)), none, none, none] := by
    refine sAny_map bs eB _ ?_ ?_ ?_
    · simp [hit]
    · simp
    · intro b _
      refine ⟨[some (.val it), some (.val (eV v)), some (.val (eV w)), none, none, some (.val (eB b))], ?_, fun _ => rfl, rfl⟩
      simp [turnA, meets_ok]
  have hs := sum_ones ((v.zip w).filter fun p => !(p.1 == p.2))
  unfold F_is_shift_clear m_is_shift_clear
  by_cases hd : diffN v w = 1
  · have hd' : (((diffN v w : Nat) : Int) == 1) = true := by rw [hd]; rfl
    have hb : (diffN v w == 1) = true := by rw [hd]; rfl
    refine ofBody_rt (ρ := [some (.val it), some (.val (eV v)), some (.val (eV w)), none, none, none]) ?_
    simp only [List.map_cons, List.map_nil, List.replicate, List.cons_append, List.nil_append, mSeq_ap, mIf_ap, bVal_ap, sOp2_ap, ph1_ex, ph2_ex, sN1_ap, h1, Res.bind_ok, frz_lst, Option.bind_some, hs, Res.ofO_some, frz_val, sC_ap, pNe_int]
    rw [show ((((v.zip w).filter fun p => !(p.1 == p.2)).length : Nat) : Int) = ((diffN v w : Nat) : Int) from rfl, hd']
    simp only [Bool.not_true, boolD_b, Bool.false_eq_true, if_false, mNext_ap, Res.out_ok, Out.seq_nx, mRet_ap, sNot_ap, h2, Res.bind_ok, shiftB, hb, Bool.true_and]
  · have hd' : (((diffN v w : Nat) : Int) == 1) = false := by simp; omega
    have hb : (diffN v w == 1) = false := by simp [hd]
    refine ofBody_rt (ρ := [some (.val it), some (.val (eV v)), some (.val (eV w)), none, none, none]) ?_
    simp only [List.map_cons, List.map_nil, List.replicate, List.cons_append, List.nil_append, mSeq_ap, mIf_ap, bVal_ap, sOp2_ap, ph1_ex, ph2_ex, sN1_ap, h1, Res.bind_ok, frz_lst, Option.bind_some, hs, Res.ofO_some, frz_val, sC_ap, pNe_int]
    rw [show ((((v.zip w).filter fun p => !(p.1 == p.2)).length : Nat) : Int) = ((diffN v w : Nat) : Int) from rfl, hd']
    simp only [Bool.not_false, boolD_b, if_true, mRet_ap, sC_ap, Res.out_ok, Out.seq_rt, shiftB, hb, Bool.false_and]
end Sd.K06
set_option Elab.async false
set_option linter.all false
set_option maxRecDepth 100000
set_option maxHeartbeats 4000000
set_option autoImplicit false
namespace Sd.K06
open PySem PySem.Spec PyProof.Rows L2 C8 Sd PySem.W

def wB (bs : List Bx) (v : List Int) (vs : List (List Int)) : Bool := freeB bs v && ((v :: vs).zip vs).all fun p => shiftB bs p.1 p.2
def eVs (vs : List (List Int)) : D := .tuple (vs.map eV)
theorem way_noT (n : Nat) (ws : Ws) (th d : D) (bs : List Bx) (hb : F_barred_boxes [eSc n ws, th] = .ok (.val (eT bs))) (hp : d.plain = true) (h : d.isTuple = false) : F_is_way [eSc n ws, th, d] = .ok (.val (.bool false)) := by
  unfold F_is_way m_is_way
  refine ofBody_rt (ρ := [some (.val (eSc n ws)), some (.val th), some (.val d), some (.val (eT bs)), none, none, none]) ?_
  simp only [List.map_cons, List.map_nil, List.replicate, List.cons_append, List.nil_append, mSeq_ap, mSet_ap, sCallX_ap, aC_ap, aN_ap, sVar_ap, List.getElem?_cons_zero, List.getElem?_cons_succ, Res.bind_ok, frz_val, hb, Res.out_ok, List.set, Out.seq_nx, mIf_ap, bOr_ap, bNot_ap, bTru_ap, ph1_ex, ph2_ex, sOp1_ap, ph1_nm, ph2_nm, Option.bind_some, pIsi_t _ hp, h, Res.ofO_some, truD_bool, Bool.not_false, if_true, mRet_ap, sC_ap, Out.seq_rt]
theorem way_empty (n : Nat) (ws : Ws) (th : D) (bs : List Bx) (hb : F_barred_boxes [eSc n ws, th] = .ok (.val (eT bs))) : F_is_way [eSc n ws, th, .tuple []] = .ok (.val (.bool false)) := by
  have hp : (PyData.tuple []).plain = true := by simp
  have ht : (PyData.tuple []).isTuple = true := rfl
  unfold F_is_way m_is_way
  refine ofBody_rt (ρ := [some (.val (eSc n ws)), some (.val th), some (.val (.tuple [])), some (.val (eT bs)), none, none, none]) ?_
  simp only [List.map_cons, List.map_nil, List.replicate, List.cons_append, List.nil_append, mSeq_ap, mSet_ap, sCallX_ap, aC_ap, aN_ap, sVar_ap, List.getElem?_cons_zero, List.getElem?_cons_succ, Res.bind_ok, frz_val, hb, Res.out_ok, List.set, Out.seq_nx, mIf_ap, bOr_ap, bNot_ap, bTru_ap, ph1_ex, ph2_ex, sOp1_ap, ph1_nm, ph2_nm, Option.bind_some, pIsi_t _ hp, ht, Res.ofO_some, truD_bool, Bool.not_true, Bool.false_eq_true, if_false, bVal_ap, sOp2_ap, sN1_ap, pLen2_tuple, List.length_nil, sC_ap, pEq_int, boolD_b]
  rfl
theorem way_places (n : Nat) (ws : Ws) (th : D) (bs : List Bx) (ds : List D) (hp : PyData.plainAll ds = true) : sAny true [4] ⟨(sIt (sVar 2)), (.nm 4), bYes⟩ [] (sCall F_is_place (aC (sVar 4) (aC (sOp2 pIx2 (.nm 0) (.ex (sC (.int 0)))) aN))) [some (.val (eSc n ws)), some (.val th), some (.val (.tuple ds)), some (.val (eT bs)), none, none, none] = .ok (.val (.bool (ds.all (placeB n)))) [some (.val (eSc n ws)), some (.val th), some (.val (.tuple ds)), some (.val (eT bs)), none, none, none] := by
  refine sAll_map ds id _ ?_ ?_ ?_
  · simp
  · simp
  · intro d hd
    refine ⟨[some (.val (eSc n ws)), some (.val th), some (.val (.tuple ds)), some (.val (eT bs)), some (.val d), none, none], ?_, fun _ => rfl, rfl⟩
    have := is_place_D d n (plainAll_iff.mp hp d hd)
    simp [turnA, sc0, this]
theorem way_noP (n : Nat) (ws : Ws) (th : D) (bs : List Bx) (ds : List D) (hb : F_barred_boxes [eSc n ws, th] = .ok (.val (eT bs))) (hp : PyData.plainAll ds = true) (h : ds.all (placeB n) = false) : F_is_way [eSc n ws, th, .tuple ds] = .ok (.val (.bool false)) := by
  have hpl : (PyData.tuple ds).plain = true := by rw [plain_tuple]; exact hp
  have ht : (PyData.tuple ds).isTuple = true := rfl
  have hw := way_places n ws th bs ds hp
  rw [h] at hw
  have hl : (((ds.length : Nat) : Int) == 0) = false := by
    cases ds with
    | nil => cases h
    | cons a b => simp; omega
  unfold F_is_way m_is_way
  refine ofBody_rt (ρ := [some (.val (eSc n ws)), some (.val th), some (.val (.tuple ds)), some (.val (eT bs)), none, none, none]) ?_
  simp only [List.map_cons, List.map_nil, List.replicate, List.cons_append, List.nil_append, mSeq_ap, mSet_ap, sCallX_ap, aC_ap, aN_ap, sVar_ap, List.getElem?_cons_zero, List.getElem?_cons_succ, Res.bind_ok, frz_val, hb, Res.out_ok, List.set, Out.seq_nx, mIf_ap, bOr_ap, bNot_ap, bTru_ap, ph1_ex, ph2_ex, sOp1_ap, ph1_nm, ph2_nm, Option.bind_some, pIsi_t _ hpl, ht, Res.ofO_some, truD_bool, Bool.not_true, Bool.false_eq_true, if_false, bVal_ap, sOp2_ap, sN1_ap, pLen2_tuple, sC_ap, pEq_int, boolD_b, hl, hw, Bool.not_false, if_true, mRet_ap, Out.seq_rt]
theorem eVs_tail (v : List Int) (vs : List (List Int)) : pSl (some 1) none (eVs (v :: vs)) = some (.val (eVs vs)) := by
  show some (Sl.val (.tuple (cutD ([eV v] ++ vs.map eV) (some ((1 : Nat) : Int)) none))) = _
  rw [cutD_from _ _ 1 rfl]
  rfl
theorem way_ok (n : Nat) (ws : Ws) (th : D) (bs : List Bx) (v : List Int) (vs : List (List Int)) (hb : F_barred_boxes [eSc n ws, th] = .ok (.val (eT bs))) (hv : ∀ x ∈ v :: vs, placeB n (eV x) = true ∧ x.length ≤ 1000) : F_is_way [eSc n ws, th, eVs (v :: vs)] = .ok (.val (.bool (wB bs v vs))) := by
  have hpa : PyData.plainAll ((v :: vs).map eV) = true := plainAll_map eV plain_eV _
  have hpl : (eVs (v :: vs)).plain = true := by unfold eVs; rw [plain_tuple]; exact hpa
  have ht : (eVs (v :: vs)).isTuple = true := rfl
  have hw := way_places n ws th bs ((v :: vs).map eV) hpa
  have hall : ((v :: vs).map eV).all (placeB n) = true := by
    rw [List.all_map, List.all_eq_true]
    exact fun x hx => (hv x hx).1
  rw [hall] at hw
  have hl : ((((v :: vs).length : Nat) : Int) == 0) = false := by simp; omega
  have hln : pLen2 [eVs (v :: vs)] = some (.val (.int ((v :: vs).length : Nat))) := by simp [eVs]
  have h0 : pIx2 (eVs (v :: vs)) (.int 0) = some (.val (eV v)) := by simp [eVs]
  have hh : sAny false [5] ⟨(sIt (sVar 3)), (.nm 5), bYes⟩ [] (sCall F_holds (aC (sVar 5) (aC (sOp2 pIx2 (.nm 2) (.ex (sC (.int 0)))) aN))) [some (.val (eSc n ws)), some (.val th), some (.val (eVs (v :: vs))), some (.val (eT bs)), none, none, none] = .ok (.val (.bool (bs.any fun b => holdsB b v))) [some (.val (eSc n ws)), some (.val th), some (.val (eVs (v :: vs))), some (.val (eT bs)), none, none, none] := by
    refine sAny_map bs eB _ ?_ ?_ ?_
    · simp [iterD_T]
    · simp
    · intro b _
      refine ⟨[some (.val (eSc n ws)), some (.val th), some (.val (eVs (v :: vs))), some (.val (eT bs)), none, some (.val (eB b)), none], ?_, fun _ => rfl, rfl⟩
      simp [turnA, h0, holds_ok]
  have hz : zipOf [eVs (v :: vs), eVs vs] = some (((v :: vs).zip vs).map fun p => .tuple [eV p.1, eV p.2]) := by
    unfold eVs
    rw [zipOf_t, zipD_map]
  have ha : sAny true [4, 6] ⟨(sZip (aC (sVar 2) (aC (sSl (.nm 2) (.ex (sC (.int 1))) .no) aN))), (.tup [(.nm 4), (.nm 6)]), bYes⟩ [] (sCall F_is_shift_clear (aC (sVar 3) (aC (sVar 4) (aC (sVar 6) aN)))) [some (.val (eSc n ws)), some (.val th), some (.val (eVs (v :: vs))), some (.val (eT bs)), none, none, none] = .ok (.val (.bool (((v :: vs).zip vs).all fun p => shiftB bs p.1 p.2))) [some (.val (eSc n ws)), some (.val th), some (.val (eVs (v :: vs))), some (.val (eT bs)), none, none, none] := by
    refine sAll_map ((v :: vs).zip vs) (fun p => .tuple [eV p.1, eV p.2]) _ ?_ ?_ ?_
    · simp only [sZip_ap, aC_ap, aN_ap, sVar_ap, sSl_ap, ph1_nm, ph2_nm, bd_ex, bd_no, sC_ap, intD_i, List.getElem?_cons_succ, List.getElem?_cons_zero, Res.bind_ok, frz_val, Option.bind_some, eVs_tail, Res.ofO_some, hz]
    · simp
    · intro p hp
      have hp1 : p.1 ∈ v :: vs := (List.of_mem_zip hp).1
      refine ⟨[some (.val (eSc n ws)), some (.val th), some (.val (eVs (v :: vs))), some (.val (eT bs)), some (.val (eV p.1)), none, some (.val (eV p.2))], ?_, fun _ => rfl, rfl⟩
      have := shift_ok bs p.1 p.2 (hv p.1 hp1).2 (eT bs) (iterD_T bs)
      simp [turnA, this]
  have hw' : sAny true [4] ⟨(sIt (sVar 2)), (.nm 4), bYes⟩ [] (sCall F_is_place (aC (sVar 4) (aC (sOp2 pIx2 (.nm 0) (.ex (sC (.int 0)))) aN))) [some (.val (eSc n ws)), some (.val th), some (.val (eVs (v :: vs))), some (.val (eT bs)), none, none, none] = .ok (.val (.bool true)) [some (.val (eSc n ws)), some (.val th), some (.val (eVs (v :: vs))), some (.val (eT bs)), none, none, none] := hw
  unfold F_is_way m_is_way
  refine ofBody_rt (ρ := [some (.val (eSc n ws)), some (.val th), some (.val (eVs (v :: vs))), some (.val (eT bs)), none, none, none]) ?_
  simp only [List.map_cons, List.map_nil, List.replicate, List.cons_append, List.nil_append, mSeq_ap, mSet_ap, sCallX_ap, aC_ap, aN_ap, sVar_ap, List.getElem?_cons_zero, List.getElem?_cons_succ, Res.bind_ok, frz_val, hb, Res.out_ok, List.set, Out.seq_nx, mIf_ap, bOr_ap, bNot_ap, bTru_ap, ph1_ex, ph2_ex, sOp1_ap, ph1_nm, ph2_nm, Option.bind_some, pIsi_t _ hpl, ht, Res.ofO_some, truD_bool, Bool.not_true, Bool.false_eq_true, if_false, bVal_ap, sOp2_ap, sN1_ap, hln, sC_ap, pEq_int, boolD_b, hl, hw', mNext_ap, hh, wB, freeB]
  cases hq : bs.any fun b => holdsB b v with
  | true => simp
  | false => simp only [Bool.false_eq_true, if_false, mNext_ap, Out.seq_nx, mRet_ap, ha, Res.out_ok, Bool.not_false, Bool.true_and]
/-! the law's own words -/
theorem lclear_ok (bs : List Bx) (v : List Int) (h : ∀ b ∈ bs, b.length = v.length) (hv : v.length ≤ 1000) (hl : bs.length ≤ 1000000) (it : D) (hit : iterD it = some (bs.map eB)) : F__law_clear [it, eV v] = .ok (.val (.bool (freeB bs v))) := by
  have h1 : sListComp [2] ⟨(sIt (sVar 0)), (.nm 2), (bTru (.ex (sCall F__law_within (aC (sVar 2) (aC (sVar 1) aN)))))⟩ [] (sVar 2) [some (.val it), some (.val (eV v)), none] = .ok (.own (.lst ((bs.filter fun b => holdsB b v).map eB))) [some (.val it), some (.val (eV v)), none] := by
    refine sLC_if bs eB _ eB ?_ ?_ ?_ ?_
    · simp [hit]
    · simp
    · intro b hb
      have := law_within_ok b v (h b hb) (by have := h b hb; omega)
      cases hq : holdsB b v <;> rw [hq] at this <;> simp [turnC, this]
    · exact sizeLine_big hl
  unfold F__law_clear m__law_clear
  refine ofBody_ret0 [some (.val it), some (.val (eV v)), none] rfl ?_
  rw [sEqNil h1 (okEq_boxes _)]
  have := filt_any bs (fun b => holdsB b v) eB
  unfold freeB
  rw [← this, Bool.not_not]
theorem still_ok (n : Nat) (ws : Ws) (hl : (wallsL ws).length ≤ 1000000) : F__law_still [eSc n ws] = .ok (.own (.lst ((wallsL ws).map eB))) := by
  have loop : ∀ (l : Ws) (acc : List Bx) (x2 x3 : Option Sl), acc.length + (wallsL l).length ≤ 1000000 → ∃ y2 y3 : Option Sl,
      forItems (.tup [(.nm 2), (.nm 3)]) (mSet 1 (sOp2 pAdd (.nm 1) (.ex (sN pListC2 [(.nm 3)])))) (l.map eW) [some (.val (eSc n ws)), some (.own (.lst (acc.map eB))), x2, x3] = .nx [some (.val (eSc n ws)), some (.own (.lst ((acc ++ wallsL l).map eB))), y2, y3] := by
    intro l
    induction l with
    | nil => intro acc x2 x3 _; exact ⟨x2, x3, by simp [forItems_nil, wallsL]⟩
    | cons p l ih =>
      intro acc x2 x3 hz
      have hz' : acc.length + (p.2.length + (wallsL l).length) ≤ 1000000 := by simpa [wallsL] using hz
      obtain ⟨y2, y3, e⟩ := ih (acc ++ p.2) (some (.val (.str p.1))) (some (.val (eT p.2))) (by simp; omega)
      refine ⟨y2, y3, ?_⟩
      have hc : pListC2 [eT p.2] = some (.own (.lst (p.2.map eB))) := rfl
      have ha := pAdd_ll (acc.map eB) (p.2.map eB) (by simp; omega)
      rw [← List.map_append] at ha
      rw [List.map_cons, forItems_cons]
      simp only [eW, assignT_tup, assignTs_cons, assignT_nm, List.set, Option.bind_some, assignTs_nil, mSet_ap, sOp2_ap, ph1_nm, ph2_nm, ph1_ex, ph2_ex, sN1_ap, List.getElem?_cons_zero, List.getElem?_cons_succ, Res.bind_ok, frz_lst, frz_val, hc, Res.ofO_some, ha, Res.out_ok, Out.turn_nx, e]
      simp [wallsL]
  obtain ⟨y2, y3, e⟩ := loop ws [] none none (by simpa using hl)
  have e0 : (0 : Nat) ≤ sizeLine := Nat.zero_le _
  unfold F__law_still m__law_still
  refine ofBody_rt (ρ := [some (.val (eSc n ws)), none, y2, y3]) ?_
  simp only [List.map_nil, List.nil_append] at e
  simp only [List.map_cons, List.map_nil, List.replicate, List.cons_append, List.nil_append, mSeq_ap, mSet_ap, sLst_ap, aN_ap, Res.bind_ok, List.length_nil, if_pos e0, Res.out_ok, List.set, Out.seq_nx, mFor_ap, sIt_ap, sOp2_ap, ph1_nm, ph2_nm, ph1_ex, ph2_ex, sC_ap, List.getElem?_cons_zero, List.getElem?_cons_succ, frz_val, Option.bind_some, sc1, Res.ofO_some, iterD_t, e, mRetV_ap]
theorem lbarred_ok (n : Nat) (ws : Ws) (th : List Bx) (hn : n ≤ 1000) (hw : ∀ w ∈ wallsL ws, w.length = n) (ht : ∀ b ∈ th, b.length = n) (hl : (wallsL ws).length ≤ 1000) (hl2 : th.length ≤ 1000) : F__law_barred [eSc n ws, eT th] = .ok (.own (.lst ((barL (wallsL ws) th).map eB))) := by
  have one : ∀ (w : Bx), w.length = n → ∀ (A : Sl) (x4 x5 : Option Sl), keepV x4 = x4 → keepV x5 = x5 → sListComp [5] ⟨(sIt (sVar 1)), (.nm 5), bYes⟩ [] (sN pTuple [(.ex (sListComp [4] ⟨(sRange1 (aC (sOp2 pIx2 (.nm 0) (.ex (sC (.int 0)))) aN)), (.nm 4), bYes⟩ [] (sTup (aC (sOp2 pSub (.ex (sOp2 pIx2 (.ex (sOp2 pIx2 (.nm 3) (.nm 4))) (.ex (sC (.int 0))))) (.ex (sOp2 pIx2 (.ex (sOp2 pIx2 (.nm 5) (.nm 4))) (.ex (sC (.int 1)))))) (aC (sOp2 pSub (.ex (sOp2 pIx2 (.ex (sOp2 pIx2 (.nm 3) (.nm 4))) (.ex (sC (.int 1))))) (.ex (sOp2 pIx2 (.ex (sOp2 pIx2 (.nm 5) (.nm 4))) (.ex (sC (.int 0)))))) aN)))))]) [some (.val (eSc n ws)), some (.val (eT th)), some A, some (.val (eB w)), x4, x5] =
      .ok (.own (.lst ((th.map (barB w)).map eB))) [some (.val (eSc n ws)), some (.val (eT th)), some A, some (.val (eB w)), x4, x5] := by
    intro w hwl A x4 x5 k4 k5
    rw [List.map_map]
    refine sLC_one th eB _ ?_ ?_ ?_ ?_
    · simp [iterD_T]
    · simp [k5]
    · intro b hb
      have hbl := ht b hb
      have hi : ∀ ρ5 : Ev, ρ5 = [some (.val (eSc n ws)), some (.val (eT th)), some A, some (.val (eB w)), x4, some (.val (eB b))] → sListComp [4] ⟨(sRange1 (aC (sOp2 pIx2 (.nm 0) (.ex (sC (.int 0)))) aN)), (.nm 4), bYes⟩ [] (sTup (aC (sOp2 pSub (.ex (sOp2 pIx2 (.ex (sOp2 pIx2 (.nm 3) (.nm 4))) (.ex (sC (.int 0))))) (.ex (sOp2 pIx2 (.ex (sOp2 pIx2 (.nm 5) (.nm 4))) (.ex (sC (.int 1)))))) (aC (sOp2 pSub (.ex (sOp2 pIx2 (.ex (sOp2 pIx2 (.nm 3) (.nm 4))) (.ex (sC (.int 1))))) (.ex (sOp2 pIx2 (.ex (sOp2 pIx2 (.nm 5) (.nm 4))) (.ex (sC (.int 0)))))) aN))) ρ5 =
          .ok (.own (.lst ((List.range n).map fun i => eP (w[i]!.1 - b[i]!.2, w[i]!.2 - b[i]!.1)))) ρ5 := by
        intro ρ5 e5
        rw [e5]
        refine sLC_one (List.range n) eN _ ?_ ?_ ?_ ?_
        · exact sRange1_s (by simp [sc0]) (by omega)
        · simp [k4]
        · intro i hi
          have hi' : i < n := List.mem_range.mp hi
          have q1 : i < w.length := by omega
          have q2 : i < b.length := by omega
          have g1 := ix_eB w q1
          have g2 := ix_eB b q2
          have f1 : w[i]! = w[i] := by simp [q1]
          have f2 : b[i]! = b[i] := by simp [q2]
          rw [f1, f2]
          simp [turnC, eN, g1, g2, eP, z2]
        · rw [List.length_range]; exact sizeLine_big (by omega)
      have e : ((List.range n).map fun i => eP (w[i]!.1 - b[i]!.2, w[i]!.2 - b[i]!.1)) = (barB w b).map eP := by
        apply List.ext_getElem
        · simp [barB]; omega
        · intro i h1 h2
          simp at h1 h2
          have q1 : i < w.length := by omega
          have q2 : i < b.length := by omega
          simp [barB, q1, q2]
      simp only [turnC, assignT_nm, wipeE_cons, wipeE_nil, List.set, bYes_ap, Res.bind_ok, if_true, emit1_ap, sN1_ap, ph1_ex, ph2_ex, hi _ rfl, e, frz_lst, Option.bind_some, pTuple_list, Res.ofO_some, frz_val, slots_nm]
      rfl
    · exact sizeLine_big (by omega)
  have loop : ∀ (W acc : List Bx) (x3 : Option Sl), (∀ w ∈ W, w.length = n) → acc.length + W.length * 1000 ≤ 1000000 → ∃ y3 : Option Sl,
      forItems (.nm 3) (mSet 2 (sOp2 pAdd (.nm 2) (.ex (sListComp [5] ⟨(sIt (sVar 1)), (.nm 5), bYes⟩ [] (sN pTuple [(.ex (sListComp [4] ⟨(sRange1 (aC (sOp2 pIx2 (.nm 0) (.ex (sC (.int 0)))) aN)), (.nm 4), bYes⟩ [] (sTup (aC (sOp2 pSub (.ex (sOp2 pIx2 (.ex (sOp2 pIx2 (.nm 3) (.nm 4))) (.ex (sC (.int 0))))) (.ex (sOp2 pIx2 (.ex (sOp2 pIx2 (.nm 5) (.nm 4))) (.ex (sC (.int 1)))))) (aC (sOp2 pSub (.ex (sOp2 pIx2 (.ex (sOp2 pIx2 (.nm 3) (.nm 4))) (.ex (sC (.int 1))))) (.ex (sOp2 pIx2 (.ex (sOp2 pIx2 (.nm 5) (.nm 4))) (.ex (sC (.int 0)))))) aN)))))]))))) (W.map eB) [some (.val (eSc n ws)), some (.val (eT th)), some (.own (.lst (acc.map eB))), x3, none, none] =
        .nx [some (.val (eSc n ws)), some (.val (eT th)), some (.own (.lst ((acc ++ barL W th).map eB))), y3, none, none] := by
    intro W
    induction W with
    | nil => intro acc x3 _ _; exact ⟨x3, by simp [forItems_nil, barL]⟩
    | cons w W ih =>
      intro acc x3 hww hz
      simp only [List.length_cons] at hz
      obtain ⟨y3, e⟩ := ih (acc ++ th.map (barB w)) (some (.val (eB w))) (fun x hx => hww x (by simp [hx])) (by simp; omega)
      refine ⟨y3, ?_⟩
      have ho := one w (hww w (by simp)) (.own (.lst (acc.map eB))) none none rfl rfl
      have ha := pAdd_ll (acc.map eB) ((th.map (barB w)).map eB) (by simp; omega)
      rw [← List.map_append] at ha
      rw [List.map_cons, forItems_cons]
      simp only [assignT_nm, List.set, mSet_ap, sOp2_ap, ph1_nm, ph2_nm, ph1_ex, ph2_ex, List.getElem?_cons_zero, List.getElem?_cons_succ, Res.bind_ok, ho, frz_lst, Option.bind_some, ha, Res.ofO_some, Res.out_ok, Out.turn_nx, e]
      simp [barL]
  obtain ⟨y3, e⟩ := loop (wallsL ws) [] none hw (by simp; omega)
  have e0 : (0 : Nat) ≤ sizeLine := Nat.zero_le _
  have hs := still_ok n ws (by omega)
  simp only [List.map_nil, List.nil_append] at e
  unfold F__law_barred m__law_barred
  refine ofBody_rt (ρ := [some (.val (eSc n ws)), some (.val (eT th)), none, y3, none, none]) ?_
  simp only [List.map_cons, List.map_nil, List.replicate, List.cons_append, List.nil_append, mSeq_ap, mSet_ap, sLst_ap, aN_ap, aC_ap, sVar_ap, Res.bind_ok, List.length_nil, if_pos e0, Res.out_ok, List.set, Out.seq_nx, mFor_ap, sIt_ap, sCall_ap, List.getElem?_cons_zero, List.getElem?_cons_succ, frz_val, hs, frz_lst, iterD_l, e, mRetV_ap]
end Sd.K06
set_option Elab.async false
set_option linter.all false
set_option maxRecDepth 100000
set_option maxHeartbeats 4000000
set_option autoImplicit false
namespace Sd.K06
open PySem PySem.Spec PyProof.Rows L2 C8 Sd PySem.W
def ran (p : Int × Int) : List Int := (List.range (p.2 - p.1).toNat).map fun (i : Nat) => p.1 + (i : Int)
theorem mem_ran (p : Int × Int) (i : Int) : i ∈ ran p ↔ p.1 ≤ i ∧ i < p.2 := by
  unfold ran
  rw [List.mem_map]
  constructor
  · rintro ⟨k, hk, rfl⟩
    have := List.mem_range.mp hk
    omega
  · rintro ⟨h1, h2⟩
    exact ⟨(i - p.1).toNat, List.mem_range.mpr (by omega), by omega⟩
theorem range2_n (p : Int × Int) (h : p.1 < p.2) (h1 : -1000000 ≤ p.1) (h2 : p.2 ≤ 1000000) : range2Of [.int p.1, .int p.2] = some ((ran p).map eI) := by
  have e : (2 : Int) ^ 62 = 4611686018427387904 := by decide
  have h1 : -(2 ^ 62) ≤ p.1 ∧ p.1 < 2 ^ 62 ∧ -(2 ^ 62) ≤ p.2 ∧ p.2 < 2 ^ 62 := by rw [e]; refine ⟨?_, ?_, ?_, ?_⟩ <;> omega
  unfold range2Of
  simp only
  rw [if_pos h1]
  simp [rangeD, ran, eI, Function.comp_def]
theorem sRange2_s {as : M (List D)} {ρ : Ev} {p : Int × Int} (h : as ρ = .ok [.int p.1, .int p.2] ρ) (hp : p.1 < p.2) (h1 : -1000000 ≤ p.1) (h2 : p.2 ≤ 1000000) : sRange2 as ρ = .ok ((ran p).map eI) ρ := by
  unfold sRange2
  rw [h, Res.bind_ok, range2_n p hp h1 h2]
  exact Res.ofO_some _ _
theorem ran_len (p : Int × Int) (h1 : -1000000 ≤ p.1) (h2 : p.2 ≤ 1000000) : (ran p).length ≤ 2000000 := by
  simp [ran]; omega
def shB (b : Bx) (v : List Int) : Bx := (b.zip v).map fun p => (p.1.1 + p.2, p.1.2 + p.2)
theorem stand_math : ∀ (w b : Bx) (v : List Int), w.length = b.length → v.length = b.length → clashB (shB b v) w = holdsB (barB w b) v
  | [], [], [], _, _ => rfl
  | x :: w, y :: b, z :: v, h1, h2 => by
    have ih := stand_math w b v (by simpa using h1) (by simpa using h2)
    have e1 : clashB (shB (y :: b) (z :: v)) (x :: w) = ((decide (y.1 + z < x.2) && decide (x.1 < y.2 + z)) && clashB (shB b v) w) := rfl
    have e2 : holdsB (barB (x :: w) (y :: b)) (z :: v) = ((decide (x.1 - y.2 < z) && decide (z < x.2 - y.1)) && holdsB (barB w b) v) := rfl
    rw [e1, e2, ih]
    have e3 : (decide (y.1 + z < x.2) && decide (x.1 < y.2 + z)) = (decide (x.1 - y.2 < z) && decide (z < x.2 - y.1)) := by
      rw [Bool.eq_iff_iff]
      simp only [Bool.and_eq_true, decide_eq_true_eq]
      omega
    rw [e3]
theorem free_stand (W th : List Bx) (v : List Int) (n : Nat) (hw : ∀ w ∈ W, w.length = n) (ht : ∀ b ∈ th, b.length = n) (hv : v.length = n) : freeB (barL W th) v = !(th.any fun b => W.any fun w => clashB (shB b v) w) := by
  unfold freeB
  congr 1
  rw [Bool.eq_iff_iff, List.any_eq_true, List.any_eq_true]
  constructor
  · rintro ⟨x, hx, hh⟩
    unfold barL at hx
    obtain ⟨w, hw1, hx⟩ := List.mem_flatMap.mp hx
    obtain ⟨b, hb1, rfl⟩ := List.mem_map.mp hx
    refine ⟨b, hb1, List.any_eq_true.mpr ⟨w, hw1, ?_⟩⟩
    rw [stand_math w b v ((hw w hw1).trans (ht b hb1).symm) (hv.trans (ht b hb1).symm)]
    exact hh
  · rintro ⟨b, hb1, hh⟩
    obtain ⟨w, hw1, hc⟩ := List.any_eq_true.mp hh
    refine ⟨barB w b, List.mem_flatMap.mpr ⟨w, hw1, List.mem_map.mpr ⟨b, hb1, rfl⟩⟩, ?_⟩
    rw [stand_math w b v ((hw w hw1).trans (ht b hb1).symm) (hv.trans (ht b hb1).symm)] at hc
    exact hc
theorem stands_ok (n : Nat) (ws : Ws) (th : List Bx) (v : List Int) (hn : n ≤ 1000) (hw : ∀ w ∈ wallsL ws, w.length = n) (ht : ∀ b ∈ th, b.length = n) (hv : v.length = n) (hl : (wallsL ws).length ≤ 1000000) : F__law_stands [eSc n ws, eT th, eV v] = .ok (.val (.bool (freeB (barL (wallsL ws) th) v))) := by
  have hs := still_ok n ws hl
  have mv : ∀ (b : Bx), b.length = n → ∀ (x4 x5 x6 : Option Sl), keepV x5 = x5 → sListComp [5] ⟨(sRange1 (aC (sOp2 pIx2 (.nm 0) (.ex (sC (.int 0)))) aN)), (.nm 5), bYes⟩ [] (sTup (aC (sOp2 pAdd (.ex (sOp2 pIx2 (.ex (sOp2 pIx2 (.nm 3) (.nm 5))) (.ex (sC (.int 0))))) (.ex (sOp2 pIx2 (.nm 2) (.nm 5)))) (aC (sOp2 pAdd (.ex (sOp2 pIx2 (.ex (sOp2 pIx2 (.nm 3) (.nm 5))) (.ex (sC (.int 1))))) (.ex (sOp2 pIx2 (.nm 2) (.nm 5)))) aN))) [some (.val (eSc n ws)), some (.val (eT th)), some (.val (eV v)), some (.val (eB b)), x4, x5, x6] =
      .ok (.own (.lst ((shB b v).map eP))) [some (.val (eSc n ws)), some (.val (eT th)), some (.val (eV v)), some (.val (eB b)), x4, x5, x6] := by
    intro b hb x4 x5 x6 k5
    have e : ((List.range n).map fun i => eP (b[i]!.1 + v[i]!, b[i]!.2 + v[i]!)) = (shB b v).map eP := by
      apply List.ext_getElem
      · simp [shB]; omega
      · intro i h1 h2
        simp at h1 h2
        have q1 : i < b.length := by omega
        have q2 : i < v.length := by omega
        simp [shB, q1, q2]
    rw [← e]
    refine sLC_one (List.range n) eN _ ?_ ?_ ?_ ?_
    · exact sRange1_s (by simp [sc0]) (by omega)
    · simp [k5]
    · intro i hi
      have hi' : i < n := List.mem_range.mp hi
      have q1 : i < b.length := by omega
      have q2 : i < v.length := by omega
      have g1 := ix_eB b q1
      have g2 := ix_eV v q2
      have f1 : b[i]! = b[i] := by simp [q1]
      have f2 : v[i]! = v[i] := by simp [q2]
      rw [f1, f2]
      simp [turnC, eN, g1, g2, eP, z2]
    · rw [List.length_range]; exact sizeLine_big (by omega)
  have cl : ∀ (b : Bx), b.length = n → ∀ (x5 x6 : Option Sl), keepV x6 = x6 → sOp2 pNe (.ex (sListComp [6] ⟨(sIt (sCall F__law_still (aC (sVar 0) aN))), (.nm 6), (bTru (.ex (sCall F__law_clash (aC (sVar 4) (aC (sVar 6) aN)))))⟩ [] (sVar 6))) (.ex (sLst aN)) [some (.val (eSc n ws)), some (.val (eT th)), some (.val (eV v)), some (.val (eB b)), some (.val (eB (shB b v))), x5, x6] =
      .ok (.val (.bool ((wallsL ws).any fun w => clashB (shB b v) w))) [some (.val (eSc n ws)), some (.val (eT th)), some (.val (eV v)), some (.val (eB b)), some (.val (eB (shB b v))), x5, x6] := by
    intro b hb x5 x6 k6
    have hlen : (shB b v).length = n := by simp [shB]; omega
    have h : sListComp [6] ⟨(sIt (sCall F__law_still (aC (sVar 0) aN))), (.nm 6), (bTru (.ex (sCall F__law_clash (aC (sVar 4) (aC (sVar 6) aN)))))⟩ [] (sVar 6) [some (.val (eSc n ws)), some (.val (eT th)), some (.val (eV v)), some (.val (eB b)), some (.val (eB (shB b v))), x5, x6] = .ok (.own (.lst (((wallsL ws).filter fun w => clashB (shB b v) w).map eB))) [some (.val (eSc n ws)), some (.val (eT th)), some (.val (eV v)), some (.val (eB b)), some (.val (eB (shB b v))), x5, x6] := by
      refine sLC_if (wallsL ws) eB _ eB ?_ ?_ ?_ ?_
      · simp [hs]
      · simp [k6]
      · intro w hw1
        have := law_clash_ok (shB b v) w (hlen.trans (hw w hw1).symm) (by omega)
        cases hq : clashB (shB b v) w <;> rw [hq] at this <;> simp [turnC, this]
      · exact sizeLine_big hl
    rw [sNeNil h (okEq_boxes _), filt_any]
  have loop : ∀ (bs : List Bx) (x3 x4 : Option Sl), (∀ b ∈ bs, b.length = n) → ∃ y3 y4 : Option Sl,
      forItems (.nm 3) (mSeq (mSet 4 (sN pTuple [(.ex (sListComp [5] ⟨(sRange1 (aC (sOp2 pIx2 (.nm 0) (.ex (sC (.int 0)))) aN)), (.nm 5), bYes⟩ [] (sTup (aC (sOp2 pAdd (.ex (sOp2 pIx2 (.ex (sOp2 pIx2 (.nm 3) (.nm 5))) (.ex (sC (.int 0))))) (.ex (sOp2 pIx2 (.nm 2) (.nm 5)))) (aC (sOp2 pAdd (.ex (sOp2 pIx2 (.ex (sOp2 pIx2 (.nm 3) (.nm 5))) (.ex (sC (.int 1))))) (.ex (sOp2 pIx2 (.nm 2) (.nm 5)))) aN)))))])) (mIf (bVal (sOp2 pNe (.ex (sListComp [6] ⟨(sIt (sCall F__law_still (aC (sVar 0) aN))), (.nm 6), (bTru (.ex (sCall F__law_clash (aC (sVar 4) (aC (sVar 6) aN)))))⟩ [] (sVar 6))) (.ex (sLst aN)))) (mRet (sC (.bool false))) mNext)) (bs.map eB) [some (.val (eSc n ws)), some (.val (eT th)), some (.val (eV v)), x3, x4, none, none] =
        (if (bs.any fun b => (wallsL ws).any fun w => clashB (shB b v) w) = true then .rt (.val (.bool false)) [some (.val (eSc n ws)), some (.val (eT th)), some (.val (eV v)), y3, y4, none, none] else .nx [some (.val (eSc n ws)), some (.val (eT th)), some (.val (eV v)), y3, y4, none, none]) := by
    intro bs
    induction bs with
    | nil => intro x3 x4 _; exact ⟨x3, x4, by simp [forItems_nil]⟩
    | cons b bs ih =>
      intro x3 x4 hb
      have h1 := mv b (hb b (by simp)) x4 none none rfl
      have h2 := cl b (hb b (by simp)) none none rfl
      have he : PyData.tuple ((shB b v).map eP) = eB (shB b v) := rfl
      cases hq : (wallsL ws).any fun w => clashB (shB b v) w with
      | true =>
        rw [hq] at h2
        refine ⟨some (.val (eB b)), some (.val (eB (shB b v))), ?_⟩
        rw [List.map_cons, forItems_cons, List.any_cons, hq, Bool.true_or]
        simp only [assignT_nm, List.set, mSeq_ap, mSet_ap, sN1_ap, ph1_ex, ph2_ex, h1, Res.bind_ok, frz_lst, Option.bind_some, pTuple_list, he, Res.ofO_some, Res.out_ok, Out.seq_nx, mIf_ap, bVal_ap, h2, boolD_b, if_true, mRet_ap, sC_ap]
        rfl
      | false =>
        rw [hq] at h2
        obtain ⟨y3, y4, e⟩ := ih (some (.val (eB b))) (some (.val (eB (shB b v)))) fun x hx => hb x (by simp [hx])
        refine ⟨y3, y4, ?_⟩
        rw [List.map_cons, forItems_cons, List.any_cons, hq, Bool.false_or, ← e]
        simp only [assignT_nm, List.set, mSeq_ap, mSet_ap, sN1_ap, ph1_ex, ph2_ex, h1, Res.bind_ok, frz_lst, Option.bind_some, pTuple_list, he, Res.ofO_some, Res.out_ok, Out.seq_nx, mIf_ap, bVal_ap, h2, boolD_b, Bool.false_eq_true, if_false, mNext_ap, Out.turn_nx]
  obtain ⟨y3, y4, e⟩ := loop th none none ht
  rw [free_stand (wallsL ws) th v n hw ht hv]
  unfold F__law_stands m__law_stands
  refine ofBody_rt (ρ := [some (.val (eSc n ws)), some (.val (eT th)), some (.val (eV v)), y3, y4, none, none]) ?_
  simp only [List.map_cons, List.map_nil, List.replicate, List.cons_append, List.nil_append, mSeq_ap (mFor _ _ _), mFor_ap, sIt_ap, sVar_ap, List.getElem?_cons_zero, List.getElem?_cons_succ, Res.bind_ok, frz_val, iterD_T, Res.out_ok, e]
  cases hq : th.any fun b => (wallsL ws).any fun w => clashB (shB b v) w with
  | true => simp
  | false => simp
/-! a straight shift, half step by half step -/
def dblB (b : Bx) : Bx := b.map fun p => (2 * p.1, 2 * p.2)
def dbl (v : List Int) : List Int := v.map fun x => 2 * x
theorem holds_app : ∀ (a c : Bx) (v w : List Int), a.length = v.length → holdsB (a ++ c) (v ++ w) = (holdsB a v && holdsB c w)
  | [], _, [], _, _ => by simp [holdsB]
  | p :: a, c, x :: v, w, h => by
    have ih := holds_app a c v w (by simpa using h)
    have e : ∀ (q : Bx) (z : List Int), holdsB (p :: q) (x :: z) = ((decide (p.1 < x) && decide (x < p.2)) && holdsB q z) := fun _ _ => rfl
    rw [List.cons_append, List.cons_append, e, e, ih]
    simp only [Bool.and_assoc]
theorem meets_app : ∀ (a c : Bx) (v w v2 w2 : List Int), a.length = v.length → a.length = w.length → meetsB (a ++ c) (v ++ v2) (w ++ w2) = (meetsB a v w && meetsB c v2 w2)
  | [], _, [], [], _, _, _, _ => by simp [meetsB]
  | p :: a, c, x :: v, y :: w, v2, w2, h, h2 => by
    have ih := meets_app a c v w v2 w2 (by simpa using h) (by simpa using h2)
    have e : ∀ (q : Bx) (z u : List Int), meetsB (p :: q) (x :: z) (y :: u) = ((decide (min x y < p.2) && decide (p.1 < max x y)) && meetsB q z u) := fun _ _ _ => rfl
    rw [List.cons_append, List.cons_append, List.cons_append, e, e, ih]
    simp only [Bool.and_assoc]
theorem meets_same : ∀ (a : Bx) (v : List Int), a.length = v.length → meetsB a v v = holdsB (dblB a) (dbl v)
  | [], [], _ => rfl
  | p :: a, x :: v, h => by
    have ih := meets_same a v (by simpa using h)
    have e1 : meetsB (p :: a) (x :: v) (x :: v) = ((decide (min x x < p.2) && decide (p.1 < max x x)) && meetsB a v v) := rfl
    have e2 : holdsB (dblB (p :: a)) (dbl (x :: v)) = ((decide (2 * p.1 < 2 * x) && decide (2 * x < 2 * p.2)) && holdsB (dblB a) (dbl v)) := rfl
    rw [e1, e2, ih]
    congr 1
    rw [Bool.eq_iff_iff]
    simp only [Bool.and_eq_true, decide_eq_true_eq]
    omega
/-- places on the way, by halves -/
def halves (pre post : List Int) (s : Int) : List Int := dbl pre ++ s :: dbl post
theorem shift_math (b : Bx) (pre post : List Int) (x y : Int) (hb : b.length = pre.length + 1 + post.length) (ho : ∀ p ∈ b, p.1 < p.2) : ((ran (2 * min x y, 2 * max x y + 1)).any fun s => holdsB (dblB b) (halves pre post s)) = meetsB b (pre ++ x :: post) (pre ++ y :: post) := by
  obtain ⟨b1, q, b2, rfl, h1, h2⟩ : ∃ b1 q b2, b = b1 ++ q :: b2 ∧ b1.length = pre.length ∧ b2.length = post.length := by
    have hk : pre.length < b.length := by omega
    exact ⟨b.take pre.length, b[pre.length], b.drop (pre.length + 1), by rw [List.getElem_cons_drop, List.take_append_drop], by simp; omega, by simp; omega⟩
  have hq := ho q (by simp)
  rw [meets_app b1 (q :: b2) pre pre (x :: post) (y :: post) h1 h1, meets_same b1 pre h1]
  have em : meetsB (q :: b2) (x :: post) (y :: post) = ((decide (min x y < q.2) && decide (q.1 < max x y)) && meetsB b2 post post) := rfl
  rw [em, meets_same b2 post h2]
  have eh : ∀ s, holdsB (dblB (b1 ++ q :: b2)) (halves pre post s) = (holdsB (dblB b1) (dbl pre) && ((decide (2 * q.1 < s) && decide (s < 2 * q.2)) && holdsB (dblB b2) (dbl post))) := by
    intro s
    unfold halves
    have : dblB (b1 ++ q :: b2) = dblB b1 ++ (2 * q.1, 2 * q.2) :: dblB b2 := by simp [dblB]
    rw [this, holds_app _ _ _ _ (by simp [dblB, dbl, h1])]
    rfl
  rw [Bool.eq_iff_iff, List.any_eq_true]
  simp only [eh, Bool.and_eq_true, decide_eq_true_eq]
  constructor
  · rintro ⟨s, hs, a1, ⟨a2, a3⟩, a4⟩
    have := (mem_ran _ s).mp hs
    simp only at this
    exact ⟨a1, ⟨by omega, by omega⟩, a4⟩
  · rintro ⟨a1, ⟨a2, a3⟩, a4⟩
    refine ⟨max (2 * min x y) (2 * q.1 + 1), (mem_ran _ _).mpr ⟨by simp only; omega, by simp only; omega⟩, a1, ⟨by omega, by omega⟩, a4⟩
theorem shift_all (bs : List Bx) (pre post : List Int) (x y : Int) (hb : ∀ b ∈ bs, b.length = pre.length + 1 + post.length ∧ ∀ p ∈ b, p.1 < p.2) : ((ran (2 * min x y, 2 * max x y + 1)).all fun s => freeB (bs.map dblB) (halves pre post s)) = !(bs.any fun b => meetsB b (pre ++ x :: post) (pre ++ y :: post)) := by
  rw [Bool.eq_iff_iff, List.all_eq_true]
  simp only [freeB, Bool.not_eq_true']
  constructor
  · intro h
    rw [Bool.eq_false_iff]
    intro hc
    obtain ⟨b, hb1, hm⟩ := List.any_eq_true.mp hc
    rw [← shift_math b pre post x y (hb b hb1).1 (hb b hb1).2] at hm
    obtain ⟨s, hs, hh⟩ := List.any_eq_true.mp hm
    have := h s hs
    rw [Bool.eq_false_iff] at this
    exact this (List.any_eq_true.mpr ⟨dblB b, List.mem_map.mpr ⟨b, hb1, rfl⟩, hh⟩)
  · intro h s hs
    rw [Bool.eq_false_iff] at h ⊢
    intro hc
    obtain ⟨c, hc1, hh⟩ := List.any_eq_true.mp hc
    obtain ⟨b, hb1, rfl⟩ := List.mem_map.mp hc1
    refine h (List.any_eq_true.mpr ⟨b, hb1, ?_⟩)
    rw [← shift_math b pre post x y (hb b hb1).1 (hb b hb1).2]
    exact List.any_eq_true.mpr ⟨s, hs, hh⟩
end Sd.K06
set_option Elab.async false
set_option linter.all false
set_option maxRecDepth 100000
set_option maxHeartbeats 4000000
set_option autoImplicit false
namespace Sd.K06
open PySem PySem.Spec PyProof.Rows L2 C8 Sd PySem.W

/-- where two places differ -/
def axesL (v w : List Int) : List Nat := (List.range v.length).filter fun i => !(v[i]! == w[i]!)
theorem axes_len : ∀ (v w : List Int), v.length = w.length → (axesL v w).length = diffN v w
  | [], [], _ => rfl
  | x :: v, y :: w, h => by
    have ih := axes_len v w (by simpa using h)
    unfold axesL diffN at ih ⊢
    rw [List.length_cons, List.range_succ_eq_map, List.filter_cons, List.zip_cons_cons, List.filter_cons, List.filter_map]
    have e : ((fun i => !((x :: v)[i]! == (y :: w)[i]!)) ∘ Nat.succ) = fun i => !(v[i]! == w[i]!) := by
      funext i
      simp
    rw [e]
    by_cases hxy : x = y <;> simp [hxy] <;> simpa using ih
theorem axes_one {v w : List Int} {a : Nat} (h : v.length = w.length) (ha : axesL v w = [a]) : ∃ pre post x y, v = pre ++ x :: post ∧ w = pre ++ y :: post ∧ pre.length = a := by
  have hm : a ∈ axesL v w := by rw [ha]; simp
  have ha1 : a < v.length := List.mem_range.mp (List.mem_filter.mp hm).1
  have ha2 : a < w.length := by omega
  have same : ∀ i, i < v.length → i ≠ a → v[i]! = w[i]! := by
    intro i hi hne
    by_cases hq : v[i]! = w[i]!
    · exact hq
    · have : i ∈ axesL v w := List.mem_filter.mpr ⟨List.mem_range.mpr hi, by simpa using hq⟩
      rw [ha] at this
      simp at this
      exact absurd this hne
  have hpre : v.take a = w.take a := by
    apply List.ext_getElem
    · simp; omega
    · intro i h1 h2
      simp at h1 h2
      have := same i (by omega) (by omega)
      simp [show i < v.length by omega, show i < w.length by omega] at this
      simpa using this
  have hpost : v.drop (a + 1) = w.drop (a + 1) := by
    apply List.ext_getElem
    · simp; omega
    · intro i h1 h2
      simp at h1 h2
      have := same (a + 1 + i) (by omega) (by omega)
      simp [show a + 1 + i < v.length by omega, show a + 1 + i < w.length by omega] at this
      simpa using this
  refine ⟨v.take a, v.drop (a + 1), v[a], w[a], ?_, ?_, by simp; omega⟩
  · rw [List.getElem_cons_drop, List.take_append_drop]
  · rw [hpre, hpost, List.getElem_cons_drop, List.take_append_drop]
theorem dbl_comp (it : M (List D)) (u : List Int) (ρ : Ev) (h8 : ρ.length = 12) (hit : it ρ = .ok (u.map eI) ρ) (hr : restoreE ρ (wipeE ρ [8]) [8] = ρ) (hl : u.length ≤ 1000) : sListComp [8] ⟨it, (.nm 8), bYes⟩ [] (sOp2 pRep (.ex (sC (.int 2))) (.nm 8)) ρ = .ok (.own (.lst ((dbl u).map eI))) ρ := by
  unfold dbl
  rw [List.map_map]
  refine sLC_one u eI _ hit hr ?_ (sizeLine_big (by omega))
  intro x _
  have m2 : pRep (.int 2) (.int x) = some (.val (.int (2 * x))) := by
    have e64 : (2 : Int) ^ 64 = 18446744073709551616 := by decide
    unfold pRep
    simp only
    rw [if_pos (.inl ⟨by rw [e64]; omega, by rw [e64]; omega⟩)]
    rfl
  match ρ, h8 with
  | [a0, a1, a2, a3, a4, a5, a6, a7, a8, a9, a10, a11], _ => simp [turnC, eI, m2]
theorem mul2 (x : Int) : pRep (.int 2) (.int x) = some (.val (.int (2 * x))) := by
  have e64 : (2 : Int) ^ 64 = 18446744073709551616 := by decide
  unfold pRep
  simp only
  rw [if_pos (.inl ⟨by rw [e64]; omega, by rw [e64]; omega⟩)]
  rfl
theorem sV_to (pre rest : List Int) (i : Nat) (h : i = pre.length) : pSl none (some (i : Int)) (eV (pre ++ rest)) = some (.val (eV pre)) := by
  show some (Sl.val (.tuple (cutD ((pre ++ rest).map eI) none (some (i : Int))))) = _
  rw [List.map_append, cutD_to _ _ i (by simp [h])]
  rfl
theorem sV_from1 (pre rest : List Int) (r : Int) (i : Nat) (h : i = pre.length) : pSl (some ((i : Int) + 1)) none (eV (pre ++ r :: rest)) = some (.val (eV rest)) := by
  show some (Sl.val (.tuple (cutD ((pre ++ r :: rest).map eI) (some ((i : Int) + 1)) none))) = _
  rw [show ((i : Int) + 1) = ((i + 1 : Nat) : Int) by omega, show pre ++ r :: rest = (pre ++ [r]) ++ rest by simp, List.map_append, cutD_from _ _ (i + 1) (by simp [h])]
  rfl
theorem iterD_V (v : List Int) : iterD (eV v) = some (v.map eI) := rfl
theorem dblB_comp (bs : List Bx) (it : D) (hit : iterD it = some (bs.map eB)) (hb : ∀ b ∈ bs, b.length ≤ 1000) (hl : bs.length ≤ 1000000) (x1 x2 x3 x4 x5 x6 x7 : Option Sl) :
    sListComp [11] ⟨(sIt (sVar 0)), (.nm 11), bYes⟩ [] (sN pTuple [(.ex (sListComp [9, 10] ⟨(sIt (sVar 11)), (.tup [(.nm 9), (.nm 10)]), bYes⟩ [] (sTup (aC (sOp2 pRep (.ex (sC (.int 2))) (.nm 9)) (aC (sOp2 pRep (.ex (sC (.int 2))) (.nm 10)) aN)))))]) [some (.val it), x1, x2, x3, x4, x5, x6, x7, none, none, none, none] =
      .ok (.own (.lst ((bs.map dblB).map eB))) [some (.val it), x1, x2, x3, x4, x5, x6, x7, none, none, none, none] := by
  rw [List.map_map]
  refine sLC_one bs eB _ ?_ ?_ ?_ ?_
  · simp [hit]
  · simp
  · intro b hb1
    have hi : ∀ ρb : Ev, ρb = [some (.val it), x1, x2, x3, x4, x5, x6, x7, none, none, none, some (.val (eB b))] → sListComp [9, 10] ⟨(sIt (sVar 11)), (.tup [(.nm 9), (.nm 10)]), bYes⟩ [] (sTup (aC (sOp2 pRep (.ex (sC (.int 2))) (.nm 9)) (aC (sOp2 pRep (.ex (sC (.int 2))) (.nm 10)) aN))) ρb = .ok (.own (.lst ((dblB b).map eP))) ρb := by
      intro ρb eb
      rw [eb]
      unfold dblB
      rw [List.map_map]
      refine sLC_one b eP _ ?_ ?_ ?_ ?_
      · simp [iterD_B]
      · simp
      · intro p _
        simp [turnC, eP, mul2, z2]
      · exact sizeLine_big (by have := hb b hb1; omega)
    have he : PyData.tuple ((dblB b).map eP) = eB (dblB b) := rfl
    simp only [turnC, assignT_nm, wipeE_cons, wipeE_nil, List.set, bYes_ap, Res.bind_ok, if_true, emit1_ap, sN1_ap, ph1_ex, ph2_ex, hi _ rfl, frz_lst, Option.bind_some, pTuple_list, he, Res.ofO_some, frz_val, slots_nm]
    rfl
  · exact sizeLine_big hl
theorem lshift_ok (bs : List Bx) (v w : List Int) (it : D) (hit : iterD it = some (bs.map eB)) (hvw : v.length = w.length) (hv : v.length ≤ 1000) (hb : ∀ b ∈ bs, b.length = v.length ∧ ∀ p ∈ b, p.1 < p.2) (hl : bs.length ≤ 1000000) (c1 : ∀ x ∈ v, -4000 ≤ x ∧ x ≤ 4000) (c2 : ∀ x ∈ w, -4000 ≤ x ∧ x ≤ 4000) : F__law_shift [it, eV v, eV w] = .ok (.val (.bool (shiftB bs v w))) := by
  have hax : sListComp [4] ⟨(sRange1 (aC (sN pLen2 [(.nm 1)]) aN)), (.nm 4), (bVal (sOp2 pNe (.ex (sOp2 pIx2 (.nm 1) (.nm 4))) (.ex (sOp2 pIx2 (.nm 2) (.nm 4)))))⟩ [] (sVar 4) [some (.val it), some (.val (eV v)), some (.val (eV w)), none, none, none, none, none, none, none, none, none] = .ok (.own (.lst ((axesL v w).map eN))) [some (.val it), some (.val (eV v)), some (.val (eV w)), none, none, none, none, none, none, none, none, none] := by
    refine sLC_if (List.range v.length) eN _ eN ?_ ?_ ?_ ?_
    · refine sRange1_s ?_ (by omega)
      simp [len_eV]
    · simp
    · intro i hi
      have hi' : i < v.length := List.mem_range.mp hi
      have q2 : i < w.length := by omega
      have g1 := ix_eV v hi'
      have g2 := ix_eV w q2
      have f1 : v[i]! = v[i] := by simp [hi']
      have f2 : w[i]! = w[i] := by simp [q2]
      rw [f1, f2]
      by_cases hq : v[i] = w[i] <;> simp [turnC, eN, g1, g2, hq]
    · rw [List.length_range]; exact sizeLine_big (by omega)
  have hla : (((axesL v w).map eN).length : Int) = ((diffN v w : Nat) : Int) := by rw [List.length_map, axes_len v w hvw]
  unfold F__law_shift m__law_shift
  by_cases hd : diffN v w = 1
  · have hd' : (((diffN v w : Nat) : Int) == 1) = true := by rw [hd]; rfl
    have hb1 : (diffN v w == 1) = true := by rw [hd]; rfl
    obtain ⟨a, ha⟩ : ∃ a, axesL v w = [a] := by
      have := axes_len v w hvw
      rw [hd] at this
      match axesL v w, this with
      | [a], _ => exact ⟨a, rfl⟩
    obtain ⟨pre, post, x, y, rfl, rfl, rfl⟩ := axes_one hvw ha
    have hx := c1 x (by simp)
    have hy := c2 y (by simp)
    have lv : (pre ++ x :: post).length = pre.length + 1 + post.length := by simp; omega
    have ix1 : pIx2 (eV (pre ++ x :: post)) (.int (pre.length : Int)) = some (.val (.int x)) := by
      rw [ix_eV _ (by simp)]
      simp
    have ix2 : pIx2 (eV (pre ++ y :: post)) (.int (pre.length : Int)) = some (.val (.int y)) := by
      rw [ix_eV _ (by simp)]
      simp
    have hsh := shift_all bs pre post x y fun b hb2 => ⟨by rw [(hb b hb2).1, lv], (hb b hb2).2⟩
    have step : ∀ (s : Int) (x7 : Option Sl), (mSeq (mSet 7 (sOp2 pAdd (.ex (sOp2 pAdd (.ex (sN pTuple [(.ex (sListComp [8] ⟨(sIt (sSl (.nm 1) .no (.ex (sVar 5)))), (.nm 8), bYes⟩ [] (sOp2 pRep (.ex (sC (.int 2))) (.nm 8))))])) (.ex (sTup (aC (sVar 6) aN))))) (.ex (sN pTuple [(.ex (sListComp [8] ⟨(sIt (sSl (.nm 1) (.ex (sOp2 pAdd (.nm 5) (.ex (sC (.int 1))))) .no)), (.nm 8), bYes⟩ [] (sOp2 pRep (.ex (sC (.int 2))) (.nm 8))))])))) (mIf (bNot (bTru (.ex (sCall F__law_clear (aC (sListComp [11] ⟨(sIt (sVar 0)), (.nm 11), bYes⟩ [] (sN pTuple [(.ex (sListComp [9, 10] ⟨(sIt (sVar 11)), (.tup [(.nm 9), (.nm 10)]), bYes⟩ [] (sTup (aC (sOp2 pRep (.ex (sC (.int 2))) (.nm 9)) (aC (sOp2 pRep (.ex (sC (.int 2))) (.nm 10)) aN)))))])) (aC (sVar 7) aN)))))) (mRet (sC (.bool false))) mNext)) [some (.val it), some (.val (eV (pre ++ x :: post))), some (.val (eV (pre ++ y :: post))), some (.own (.lst [eN pre.length])), none, some (.val (.int (pre.length : Int))), some (.val (.int s)), x7, none, none, none, none] =
        (if freeB (bs.map dblB) (halves pre post s) = true then .nx [some (.val it), some (.val (eV (pre ++ x :: post))), some (.val (eV (pre ++ y :: post))), some (.own (.lst [eN pre.length])), none, some (.val (.int (pre.length : Int))), some (.val (.int s)), some (.val (eV (halves pre post s))), none, none, none, none] else .rt (.val (.bool false)) [some (.val it), some (.val (eV (pre ++ x :: post))), some (.val (eV (pre ++ y :: post))), some (.own (.lst [eN pre.length])), none, some (.val (.int (pre.length : Int))), some (.val (.int s)), some (.val (eV (halves pre post s))), none, none, none, none]) := by
      intro s x7
      have d1 := dbl_comp (sIt (sSl (.nm 1) .no (.ex (sVar 5)))) pre [some (.val it), some (.val (eV (pre ++ x :: post))), some (.val (eV (pre ++ y :: post))), some (.own (.lst [eN pre.length])), none, some (.val (.int (pre.length : Int))), some (.val (.int s)), x7, none, none, none, none] rfl (by simp [sV_to pre (x :: post) pre.length rfl, iterD_V]) (by simp) (by omega)
      have d2 := dbl_comp (sIt (sSl (.nm 1) (.ex (sOp2 pAdd (.nm 5) (.ex (sC (.int 1))))) .no)) post [some (.val it), some (.val (eV (pre ++ x :: post))), some (.val (eV (pre ++ y :: post))), some (.own (.lst [eN pre.length])), none, some (.val (.int (pre.length : Int))), some (.val (.int s)), x7, none, none, none, none] rfl (by simp [sV_from1 pre post x pre.length rfl, iterD_V]) (by simp) (by omega)
      have a1 := pAdd_tt ((dbl pre).map eI) [.int s] (by simp [dbl]; omega)
      have a2 := pAdd_tt ((dbl pre).map eI ++ [.int s]) ((dbl post).map eI) (by simp [dbl]; omega)
      have he : PyData.tuple (((dbl pre).map eI ++ [.int s]) ++ (dbl post).map eI) = eV (halves pre post s) := by simp [eV, halves, eI]
      have hc := dblB_comp bs it hit (fun b hb2 => by rw [(hb b hb2).1]; omega) hl (some (.val (eV (pre ++ x :: post)))) (some (.val (eV (pre ++ y :: post)))) (some (.own (.lst [eN pre.length]))) none (some (.val (.int (pre.length : Int)))) (some (.val (.int s))) (some (.val (eV (halves pre post s))))
      have lc := lclear_ok (bs.map dblB) (halves pre post s) (fun b hb2 => by
        obtain ⟨c, hc1, rfl⟩ := List.mem_map.mp hb2
        have := (hb c hc1).1
        simp [dblB, halves, dbl]
        omega) (by simp [halves, dbl]; omega) (by rw [List.length_map]; exact hl) (.list ((bs.map dblB).map eB)) rfl
      simp only [mSeq_ap, mSet_ap, sOp2_ap, ph1_ex, ph2_ex, sN1_ap, d1, d2, Res.bind_ok, frz_lst, Option.bind_some, pTuple_list, Res.ofO_some, frz_val, sTup_ap, aC_ap, aN_ap, sVar_ap, List.getElem?_cons_zero, List.getElem?_cons_succ, List.length_cons, List.length_nil, Nat.zero_add, if_pos z1, a1, a2, he, Res.out_ok, List.set, Out.seq_nx, mIf_ap, bNot_ap, bTru_ap, sCall_ap, hc, lc, truD_bool]
      cases hq : freeB (bs.map dblB) (halves pre post s) with
      | true => simp
      | false => simp
    have loop : ∀ (ss : List Int) (x6 x7 : Option Sl), ∃ y6 y7 : Option Sl, forItems (.nm 6) (mSeq (mSet 7 (sOp2 pAdd (.ex (sOp2 pAdd (.ex (sN pTuple [(.ex (sListComp [8] ⟨(sIt (sSl (.nm 1) .no (.ex (sVar 5)))), (.nm 8), bYes⟩ [] (sOp2 pRep (.ex (sC (.int 2))) (.nm 8))))])) (.ex (sTup (aC (sVar 6) aN))))) (.ex (sN pTuple [(.ex (sListComp [8] ⟨(sIt (sSl (.nm 1) (.ex (sOp2 pAdd (.nm 5) (.ex (sC (.int 1))))) .no)), (.nm 8), bYes⟩ [] (sOp2 pRep (.ex (sC (.int 2))) (.nm 8))))])))) (mIf (bNot (bTru (.ex (sCall F__law_clear (aC (sListComp [11] ⟨(sIt (sVar 0)), (.nm 11), bYes⟩ [] (sN pTuple [(.ex (sListComp [9, 10] ⟨(sIt (sVar 11)), (.tup [(.nm 9), (.nm 10)]), bYes⟩ [] (sTup (aC (sOp2 pRep (.ex (sC (.int 2))) (.nm 9)) (aC (sOp2 pRep (.ex (sC (.int 2))) (.nm 10)) aN)))))])) (aC (sVar 7) aN)))))) (mRet (sC (.bool false))) mNext)) (ss.map eI) [some (.val it), some (.val (eV (pre ++ x :: post))), some (.val (eV (pre ++ y :: post))), some (.own (.lst [eN pre.length])), none, some (.val (.int (pre.length : Int))), x6, x7, none, none, none, none] =
        (if (ss.all fun s => freeB (bs.map dblB) (halves pre post s)) = true then .nx [some (.val it), some (.val (eV (pre ++ x :: post))), some (.val (eV (pre ++ y :: post))), some (.own (.lst [eN pre.length])), none, some (.val (.int (pre.length : Int))), y6, y7, none, none, none, none] else .rt (.val (.bool false)) [some (.val it), some (.val (eV (pre ++ x :: post))), some (.val (eV (pre ++ y :: post))), some (.own (.lst [eN pre.length])), none, some (.val (.int (pre.length : Int))), y6, y7, none, none, none, none]) := by
      intro ss
      induction ss with
      | nil => intro x6 x7; exact ⟨x6, x7, by simp [forItems_nil]⟩
      | cons s ss ih =>
        intro x6 x7
        have hs := step s x7
        cases hq : freeB (bs.map dblB) (halves pre post s) with
        | true =>
          obtain ⟨y6, y7, e⟩ := ih (some (.val (.int s))) (some (.val (eV (halves pre post s))))
          refine ⟨y6, y7, ?_⟩
          rw [hq, if_pos rfl] at hs
          rw [List.all_cons, hq, Bool.true_and, List.map_cons, forItems_cons, ← e]
          simp only [eI, assignT_nm, List.set]
          rw [hs, Out.turn_nx]
        | false =>
          refine ⟨some (.val (.int s)), some (.val (eV (halves pre post s))), ?_⟩
          rw [hq, if_neg (by simp)] at hs
          rw [List.all_cons, hq, Bool.false_and, if_neg (by simp), List.map_cons, forItems_cons]
          simp only [eI, assignT_nm, List.set]
          rw [hs]
          rfl
    obtain ⟨y6, y7, e⟩ := loop (ran (2 * min x y, 2 * max x y + 1)) none none
    have rg : sRange2 (aC (sOp2 pRep (.ex (sC (.int 2))) (.ex (sN pMin [(.ex (sOp2 pIx2 (.nm 1) (.nm 5))), (.ex (sOp2 pIx2 (.nm 2) (.nm 5)))]))) (aC (sOp2 pAdd (.ex (sOp2 pRep (.ex (sC (.int 2))) (.ex (sN pMax [(.ex (sOp2 pIx2 (.nm 1) (.nm 5))), (.ex (sOp2 pIx2 (.nm 2) (.nm 5)))])))) (.ex (sC (.int 1)))) aN)) [some (.val it), some (.val (eV (pre ++ x :: post))), some (.val (eV (pre ++ y :: post))), some (.own (.lst [eN pre.length])), none, some (.val (.int (pre.length : Int))), none, none, none, none, none, none] = .ok ((ran (2 * min x y, 2 * max x y + 1)).map eI) [some (.val it), some (.val (eV (pre ++ x :: post))), some (.val (eV (pre ++ y :: post))), some (.own (.lst [eN pre.length])), none, some (.val (.int (pre.length : Int))), none, none, none, none, none, none] := by
      refine sRange2_s ?_ (by simp only; omega) (by simp only; omega) (by simp only; omega)
      simp [ix1, ix2, mul2]
    rw [ha] at hax hla
    have i0 : pIx2 (.list [eN pre.length]) (.int 0) = some (.val (.int (pre.length : Int))) := by simp [eN]
    refine ofBody_rt (ρ := [some (.val it), some (.val (eV (pre ++ x :: post))), some (.val (eV (pre ++ y :: post))), some (.own (.lst [eN pre.length])), none, some (.val (.int (pre.length : Int))), y6, y7, none, none, none, none]) ?_
    simp only [List.map_cons, List.map_nil] at hax hla
    simp only [List.map_cons, List.map_nil, List.replicate, List.cons_append, List.nil_append]
    rw [mSeq_ap, mSet_ap, hax, Res.out_ok, Out.seq_nx]
    simp only [List.set]
    rw [mSeq_ap, mIf_ap, bVal_ap, sOp2_ap]
    simp only [ph1_ex, ph2_ex, sN1_ap, ph1_nm, ph2_nm, List.getElem?_cons_zero, List.getElem?_cons_succ, Res.bind_ok, frz_lst, frz_val, Option.bind_some, pLen2_list, Res.ofO_some, sC_ap, pNe_int, hla, hd', Bool.not_true, boolD_b, Bool.false_eq_true, if_false, mNext_ap, Res.out_ok, Out.seq_nx]
    rw [mSeq_ap, mSet_ap, sOp2_ap]
    simp only [ph1_ex, ph2_ex, ph1_nm, ph2_nm, List.getElem?_cons_zero, List.getElem?_cons_succ, Res.bind_ok, frz_lst, frz_val, Option.bind_some, sC_ap, i0, Res.ofO_some, Res.out_ok, List.set, Out.seq_nx]
    rw [mSeq_ap, mFor_ap, rg, Res.out_ok, e]
    simp only [shiftB, hb1, Bool.true_and, hsh]
    cases hq : bs.any fun b => meetsB b (pre ++ x :: post) (pre ++ y :: post) with
    | true => simp
    | false => simp
  · have hd' : (((diffN v w : Nat) : Int) == 1) = false := by simp; omega
    have hb1 : (diffN v w == 1) = false := by simp [hd]
    refine ofBody_rt (ρ := [some (.val it), some (.val (eV v)), some (.val (eV w)), some (.own (.lst ((axesL v w).map eN))), none, none, none, none, none, none, none, none]) ?_
    simp only [List.map_cons, List.map_nil, List.replicate, List.cons_append, List.nil_append]
    rw [mSeq_ap, mSet_ap, hax, Res.out_ok, Out.seq_nx]
    simp only [List.set]
    rw [mSeq_ap, mIf_ap, bVal_ap, sOp2_ap]
    simp only [ph1_ex, ph2_ex, sN1_ap, ph1_nm, ph2_nm, List.getElem?_cons_zero, List.getElem?_cons_succ, Res.bind_ok, frz_lst, frz_val, Option.bind_some, pLen2_list, Res.ofO_some, sC_ap, pNe_int, hla, hd', Bool.not_false, boolD_b, if_true, mRet_ap, Res.out_ok, Out.seq_rt, shiftB, hb1, Bool.false_and]
end Sd.K06
set_option Elab.async false
set_option linter.all false
set_option maxRecDepth 100000
set_option maxHeartbeats 4000000
set_option autoImplicit false
namespace Sd.K06
open PySem PySem.Spec PyProof.Rows L2 C8 Sd PySem.W

theorem depth_in : ∀ {xs : List D} {x : D}, x ∈ xs → x.depth ≤ PyData.depthAll xs
  | y :: ys, x, h => by
    have e : PyData.depthAll (y :: ys) = max y.depth (PyData.depthAll ys) := by simp [PyData.depthAll]
    rw [e]
    rcases List.mem_cons.mp h with rfl | h
    · exact Nat.le_max_left _ _
    · exact Nat.le_trans (depth_in h) (Nat.le_max_right _ _)
theorem depth_tup (xs : List D) : (PyData.tuple xs).depth = PyData.depthAll xs + 1 := by simp [PyData.depth]
theorem okEq_of {d : D} (h1 : d.plain = true) (h2 : d.depth ≤ 60) : okEq d = true := by
  unfold okEq
  rw [h1, decide_eq_true h2]
  rfl
theorem okEq_sub {xs ys : List D} (h : ∀ y ∈ ys, y ∈ xs) (h1 : PyData.plainAll xs = true) (h2 : PyData.depthAll xs ≤ 50) : okEq (.list ys) = true := by
  refine okEq_of ?_ ?_
  · rw [plain_list, plainAll_iff]
    exact fun d hd => plainAll_iff.mp h1 d (h d hd)
  · have := depth_mem (n := 50) (xs := ys) fun d hd => Nat.le_trans (depth_in (h d hd)) h2
    simp only [PyData.depth]
    omega
theorem num_test (x : D) (hp : x.plain = true) (a0 a1 a2 a3 a5 : Option Sl) : (bOr (bTru (.ex (sOp1 (pIsi "bool") (.nm 4)))) (bOr (bNot (bTru (.ex (sOp1 (pIsi "int") (.nm 4))))) (bVal (sOp2 pGt (.ex (sN pAbs [(.nm 4)])) (.ex (sC (.int 4000))))))) [a0, a1, a2, a3, some (.val x), a5] = .ok (!numB (-4000) 4000 x) [a0, a1, a2, a3, some (.val x), a5] := by
  cases x with
  | dict => simp [PyData.plain] at hp
  | int i =>
    by_cases hi : i < 0
    · by_cases h2 : 4000 < -i
      · simp [PyData.isBool, PyData.isInt, numB, pAbs_i, hi, h2]; omega
      · simp [PyData.isBool, PyData.isInt, numB, pAbs_i, hi, h2]; omega
    · by_cases h2 : 4000 < i
      · simp [PyData.isBool, PyData.isInt, numB, pAbs_i, hi, h2]; try omega
      · simp [PyData.isBool, PyData.isInt, numB, pAbs_i, hi, h2]; omega
  | _ => simp [hp, PyData.isBool, PyData.isInt, numB]
theorem place_test (n : Nat) (hn : n ≤ 1000) (d : D) (hp : d.plain = true) (hd : d.depth ≤ 40) (a0 a2 : Sl) : (bOr (bNot (bTru (.ex (sOp1 (pIsi "tuple") (.nm 3))))) (bOr (bVal (sOp2 pNe (.ex (sN pLen2 [(.nm 3)])) (.nm 1))) (bVal (sOp2 pNe (.ex (sListComp [4] ⟨(sIt (sVar 3)), (.nm 4), (bOr (bTru (.ex (sOp1 (pIsi "bool") (.nm 4)))) (bOr (bNot (bTru (.ex (sOp1 (pIsi "int") (.nm 4))))) (bVal (sOp2 pGt (.ex (sN pAbs [(.nm 4)])) (.ex (sC (.int 4000)))))))⟩ [] (sVar 4))) (.ex (sLst aN)))))) [some a0, some (.val (.int (n : Int))), some a2, some (.val d), none, none] = .ok (!placeB n d) [some a0, some (.val (.int (n : Int))), some a2, some (.val d), none, none] := by
  cases d with
  | dict => simp [PyData.plain] at hp
  | tuple xs =>
    have ht : (PyData.tuple xs).isTuple = true := rfl
    have hpa : PyData.plainAll xs = true := by rw [plain_tuple] at hp; exact hp
    by_cases hl : xs.length = n
    · have hl' : (((xs.length : Nat) : Int) == (n : Int)) = true := by simp [hl]
      have h : sListComp [4] ⟨(sIt (sVar 3)), (.nm 4), (bOr (bTru (.ex (sOp1 (pIsi "bool") (.nm 4)))) (bOr (bNot (bTru (.ex (sOp1 (pIsi "int") (.nm 4))))) (bVal (sOp2 pGt (.ex (sN pAbs [(.nm 4)])) (.ex (sC (.int 4000)))))))⟩ [] (sVar 4) [some a0, some (.val (.int (n : Int))), some a2, some (.val (.tuple xs)), none, none] = .ok (.own (.lst ((xs.filter fun x => !numB (-4000) 4000 x).map id))) [some a0, some (.val (.int (n : Int))), some a2, some (.val (.tuple xs)), none, none] := by
        refine sLC_if xs id _ id ?_ ?_ ?_ ?_
        · simp
        · simp
        · intro x hx
          have := num_test x (plainAll_iff.mp hpa x hx) (some a0) (some (.val (.int (n : Int)))) (some a2) (some (.val (.tuple xs))) none
          simp only [turnC, assignT_nm, wipeE_cons, wipeE_nil, List.set, id]
          rw [this]
          cases numB (-4000) 4000 x <;> simp
        · exact sizeLine_big (by omega)
      have hz : okEq (.list ((xs.filter fun x => !numB (-4000) 4000 x).map id)) = true := by
        refine okEq_sub (xs := xs) (fun y hy => ?_) hpa (by rw [depth_tup] at hd; omega)
        simp at hy
        exact hy.1
      have hne := sNeNil h hz
      rw [filt_any] at hne
      have e : (xs.any fun x => !numB (-4000) 4000 x) = !placeB n (.tuple xs) := by
        have hb : (xs.length == n) = true := by simp [hl]
        simp only [placeB, hb, Bool.true_and]
        induction xs with
        | nil => rfl
        | cons a as => rw [List.any_eq_not_all_not]; congr 1; congr 1; funext x; simp
      rw [bOr_ap, bNot_ap, bTru_ap]
      simp only [ph1_ex, ph2_ex, sOp1_ap, ph1_nm, ph2_nm, List.getElem?_cons_zero, List.getElem?_cons_succ, Res.bind_ok, frz_val, Option.bind_some, pIsi_t _ hp, ht, Res.ofO_some, truD_bool, Bool.not_true, Bool.false_eq_true, if_false]
      rw [bOr_ap, bVal_ap, sOp2_ap]
      simp only [ph1_ex, ph2_ex, sN1_ap, ph1_nm, ph2_nm, List.getElem?_cons_zero, List.getElem?_cons_succ, Res.bind_ok, frz_val, Option.bind_some, pLen2_tuple, Res.ofO_some, pNe_int, hl', Bool.not_true, boolD_b, Bool.false_eq_true, if_false]
      rw [bVal_ap, hne, e]
      simp
    · have hl' : (((xs.length : Nat) : Int) == (n : Int)) = false := by simp; omega
      have hb : (xs.length == n) = false := by simp [hl]
      rw [bOr_ap, bNot_ap, bTru_ap]
      simp only [ph1_ex, ph2_ex, sOp1_ap, ph1_nm, ph2_nm, List.getElem?_cons_zero, List.getElem?_cons_succ, Res.bind_ok, frz_val, Option.bind_some, pIsi_t _ hp, ht, Res.ofO_some, truD_bool, Bool.not_true, Bool.false_eq_true, if_false]
      rw [bOr_ap, bVal_ap, sOp2_ap]
      simp only [ph1_ex, ph2_ex, sN1_ap, ph1_nm, ph2_nm, List.getElem?_cons_zero, List.getElem?_cons_succ, Res.bind_ok, frz_val, Option.bind_some, pLen2_tuple, Res.ofO_some, pNe_int, hl', Bool.not_false, boolD_b, if_true, placeB, hb, Bool.false_and]
  | _ => simp [hp, PyData.isTuple, placeB]
theorem lway_loop (n : Nat) (hn : n ≤ 1000) (a0 a2 : Sl) : ∀ (ds : List D) (x3 : Option Sl), (∀ d ∈ ds, d.plain = true ∧ d.depth ≤ 40) → ∃ y3 : Option Sl,
    forItems (.nm 3) (mIf (bOr (bNot (bTru (.ex (sOp1 (pIsi "tuple") (.nm 3))))) (bOr (bVal (sOp2 pNe (.ex (sN pLen2 [(.nm 3)])) (.nm 1))) (bVal (sOp2 pNe (.ex (sListComp [4] ⟨(sIt (sVar 3)), (.nm 4), (bOr (bTru (.ex (sOp1 (pIsi "bool") (.nm 4)))) (bOr (bNot (bTru (.ex (sOp1 (pIsi "int") (.nm 4))))) (bVal (sOp2 pGt (.ex (sN pAbs [(.nm 4)])) (.ex (sC (.int 4000)))))))⟩ [] (sVar 4))) (.ex (sLst aN)))))) (mRet (sC (.bool false))) mNext) ds [some a0, some (.val (.int (n : Int))), some a2, x3, none, none] =
      (if ds.all (placeB n) = true then .nx [some a0, some (.val (.int (n : Int))), some a2, y3, none, none] else .rt (.val (.bool false)) [some a0, some (.val (.int (n : Int))), some a2, y3, none, none])
  | [], x3, _ => ⟨x3, by simp [forItems_nil]⟩
  | d :: ds, x3, h => by
    have ht := place_test n hn d (h d (by simp)).1 (h d (by simp)).2 a0 a2
    cases hq : placeB n d with
    | true =>
      obtain ⟨y3, e⟩ := lway_loop n hn a0 a2 ds (some (.val d)) fun x hx => h x (by simp [hx])
      refine ⟨y3, ?_⟩
      rw [hq] at ht
      rw [List.all_cons, hq, Bool.true_and, ← e, forItems_cons, assignT_nm]
      simp only [List.set]
      rw [mIf_ap, ht]
      simp
    | false =>
      refine ⟨some (.val d), ?_⟩
      rw [hq] at ht
      rw [List.all_cons, hq, Bool.false_and, if_neg (by simp), forItems_cons, assignT_nm]
      simp only [List.set]
      rw [mIf_ap, ht]
      simp
theorem lway_noT (it d : D) (n : Nat) (hp : d.plain = true) (h : d.isTuple = false) : F__law_way [it, .int (n : Int), d] = .ok (.val (.bool false)) := by
  unfold F__law_way m__law_way
  refine ofBody_rt (ρ := [some (.val it), some (.val (.int (n : Int))), some (.val d), none, none, none]) ?_
  simp [hp, h]
theorem lway_empty (it : D) (n : Nat) : F__law_way [it, .int (n : Int), .tuple []] = .ok (.val (.bool false)) := by
  have e0 : (0 : Nat) ≤ sizeLine := Nat.zero_le _
  have hq : pEq (.tuple []) (.tuple []) = some (.val (.bool true)) := by simp [pEq, okEq, PyData.depth, PyData.depthAll, PyData.eqv, PyData.eqvAll, vB]
  unfold F__law_way m__law_way
  refine ofBody_rt (ρ := [some (.val it), some (.val (.int (n : Int))), some (.val (.tuple [])), none, none, none]) ?_
  simp [PyData.isTuple, hq]
theorem eq_empty (ds : List D) (hne : ds ≠ []) (hp : PyData.plainAll ds = true) (hd : PyData.depthAll ds ≤ 50) : pEq (.tuple ds) (.tuple []) = some (.val (.bool false)) := by
  have h1 : okEq (.tuple ds) = true := okEq_of (by rw [plain_tuple]; exact hp) (by rw [depth_tup]; omega)
  have h2 : okEq (.tuple []) = true := by simp [okEq, PyData.depth, PyData.depthAll]
  have h3 : PyData.eqv (.tuple ds) (.tuple []) = false := by
    cases ds with
    | nil => exact absurd rfl hne
    | cons a b => simp [PyData.eqv, PyData.eqvAll]
  unfold pEq
  rw [h1, h2, h3]
  rfl
theorem lway_head (it : D) (n : Nat) (hn : n ≤ 1000) (ds : List D) (hne : ds ≠ []) (hp : PyData.plainAll ds = true) (hd : PyData.depthAll ds ≤ 40) (m : MS) : ∃ y3 : Option Sl, (mSeq (mIf (bOr (bNot (bTru (.ex (sOp1 (pIsi "tuple") (.nm 2))))) (bVal (sOp2 pEq (.nm 2) (.ex (sTup aN))))) (mRet (sC (.bool false))) mNext) (mSeq (mFor (sIt (sVar 2)) (.nm 3) (mIf (bOr (bNot (bTru (.ex (sOp1 (pIsi "tuple") (.nm 3))))) (bOr (bVal (sOp2 pNe (.ex (sN pLen2 [(.nm 3)])) (.nm 1))) (bVal (sOp2 pNe (.ex (sListComp [4] ⟨(sIt (sVar 3)), (.nm 4), (bOr (bTru (.ex (sOp1 (pIsi "bool") (.nm 4)))) (bOr (bNot (bTru (.ex (sOp1 (pIsi "int") (.nm 4))))) (bVal (sOp2 pGt (.ex (sN pAbs [(.nm 4)])) (.ex (sC (.int 4000)))))))⟩ [] (sVar 4))) (.ex (sLst aN)))))) (mRet (sC (.bool false))) mNext)) m)) [some (.val it), some (.val (.int (n : Int))), some (.val (.tuple ds)), none, none, none] =
    (if ds.all (placeB n) = true then m [some (.val it), some (.val (.int (n : Int))), some (.val (.tuple ds)), y3, none, none] else .rt (.val (.bool false)) [some (.val it), some (.val (.int (n : Int))), some (.val (.tuple ds)), y3, none, none]) := by
  have hpl : (PyData.tuple ds).plain = true := by rw [plain_tuple]; exact hp
  have ht : (PyData.tuple ds).isTuple = true := rfl
  have he := eq_empty ds hne hp (by omega)
  have e0 : (0 : Nat) ≤ sizeLine := Nat.zero_le _
  obtain ⟨y3, e⟩ := lway_loop n hn (.val it) (.val (.tuple ds)) ds none fun d hd1 => ⟨plainAll_iff.mp hp d hd1, Nat.le_trans (depth_in hd1) hd⟩
  refine ⟨y3, ?_⟩
  simp only [mSeq_ap, mIf_ap (bOr (bNot (bTru (.ex (sOp1 (pIsi "tuple") (.nm 2))))) _), bOr_ap (bNot (bTru (.ex (sOp1 (pIsi "tuple") (.nm 2))))), bNot_ap, bTru_ap, ph1_ex, ph2_ex, sOp1_ap, ph1_nm, ph2_nm, List.getElem?_cons_zero, List.getElem?_cons_succ, Res.bind_ok, frz_val, Option.bind_some, pIsi_t _ hpl, ht, Res.ofO_some, truD_bool, Bool.not_true, Bool.false_eq_true, if_false, bVal_ap (sOp2 pEq (.nm 2) _), sOp2_ap pEq, sTup_ap, aN_ap, List.length_nil, if_pos e0, he, boolD_b, mNext_ap, Res.out_ok, Out.seq_nx, mFor_ap, sIt_ap, sVar_ap, iterD_t]
  rw [e]
  cases hq : ds.all (placeB n) with
  | true => simp
  | false => simp
theorem lway_noP (it : D) (n : Nat) (hn : n ≤ 1000) (ds : List D) (hp : PyData.plainAll ds = true) (hd : PyData.depthAll ds ≤ 40) (h : ds.all (placeB n) = false) : F__law_way [it, .int (n : Int), .tuple ds] = .ok (.val (.bool false)) := by
  have hne : ds ≠ [] := fun e => by rw [e] at h; cases h
  unfold F__law_way m__law_way
  obtain ⟨y3, e⟩ := lway_head it n hn ds hne hp hd _
  rw [h, if_neg (by simp)] at e
  exact ofBody_rt e
theorem pairs_zip {α : Type} [Inhabited α] (L : List α) : L.zip L.tail = (List.range (L.length - 1)).map fun i => (L[i]!, L[i + 1]!) := by
  apply List.ext_getElem
  · simp
  · intro i h1 h2
    simp at h1 h2
    have q1 : i < L.length := by omega
    have q2 : i + 1 < L.length := by omega
    simp [q1, q2]
theorem range2_any (a b : Int) (h1 : -1000000 ≤ a) (h1' : a ≤ 1000000) (h2 : -1000000 ≤ b) (h2' : b ≤ 1000000) : range2Of [.int a, .int b] = some ((List.range (b - a).toNat).map fun (i : Nat) => eI (a + (i : Int))) := by
  have e : (2 : Int) ^ 62 = 4611686018427387904 := by decide
  have h1 : -(2 ^ 62) ≤ a ∧ a < 2 ^ 62 ∧ -(2 ^ 62) ≤ b ∧ b < 2 ^ 62 := by rw [e]; refine ⟨?_, ?_, ?_, ?_⟩ <;> omega
  unfold range2Of
  simp only
  rw [if_pos h1]
  simp [rangeD, eI]
theorem len_eVs (vs : List (List Int)) : pLen2 [eVs vs] = some (.val (.int vs.length)) := by simp [eVs]
theorem ix_eVs (vs : List (List Int)) {i : Nat} (h : i < vs.length) : pIx2 (eVs vs) (.int (i : Int)) = some (.val (eV vs[i])) := by
  show (L2.atI (vs.map eV) (i : Int)).map Sl.val = _
  rw [ix_map eV vs h]
  rfl
theorem lway_ok (bs : List Bx) (n : Nat) (hn : n ≤ 1000) (v : List Int) (vs : List (List Int)) (hl : bs.length ≤ 1000000) (hl2 : vs.length ≤ 1000) (hb : ∀ b ∈ bs, b.length = n ∧ ∀ p ∈ b, p.1 < p.2) (hv : ∀ x ∈ v :: vs, x.length = n ∧ ∀ c ∈ x, -4000 ≤ c ∧ c ≤ 4000) (it : D) (hit : iterD it = some (bs.map eB)) : F__law_way [it, .int (n : Int), eVs (v :: vs)] = .ok (.val (.bool (wB bs v vs))) := by
  have hpa : PyData.plainAll ((v :: vs).map eV) = true := plainAll_map eV plain_eV _
  have hda : PyData.depthAll ((v :: vs).map eV) ≤ 40 := by
    have := depth_mem (n := 5) (xs := (v :: vs).map eV) fun d hd => by
      obtain ⟨x, _, rfl⟩ := List.mem_map.mp hd
      have := depth_mem (n := 1) (xs := x.map eI) fun d hd => by
        obtain ⟨y, _, rfl⟩ := List.mem_map.mp hd
        simp [eI, PyData.depth]
      simp only [eV, PyData.depth]
      omega
    omega
  have hall : ((v :: vs).map eV).all (placeB n) = true := by
    rw [List.all_map, List.all_eq_true]
    exact fun x hx => placeB_of (hv x hx).1 (hv x hx).2
  unfold F__law_way m__law_way
  obtain ⟨y3, e⟩ := lway_head it n hn ((v :: vs).map eV) (by simp) hpa hda (mRet (sAnd (sCall F__law_clear (aC (sVar 0) (aC (sOp2 pIx2 (.nm 2) (.ex (sC (.int 0)))) aN))) (sOp2 pEq (.ex (sListComp [5] ⟨(sRange2 (aC (sC (.int 1)) (aC (sN pLen2 [(.nm 2)]) aN))), (.nm 5), (bNot (bTru (.ex (sCall F__law_shift (aC (sVar 0) (aC (sOp2 pIx2 (.nm 2) (.ex (sOp2 pSub (.nm 5) (.ex (sC (.int 1)))))) (aC (sOp2 pIx2 (.nm 2) (.nm 5)) aN)))))))⟩ [] (sVar 5))) (.ex (sLst aN)))))
  rw [hall, if_pos rfl] at e
  have h0 : pIx2 (eVs (v :: vs)) (.int 0) = some (.val (eV v)) := by simp [eVs]
  have hc := lclear_ok bs v (fun b hb1 => by rw [(hb b hb1).1, (hv v (by simp)).1]) (by rw [(hv v (by simp)).1]; exact hn) hl it hit
  have hk : sListComp [5] ⟨(sRange2 (aC (sC (.int 1)) (aC (sN pLen2 [(.nm 2)]) aN))), (.nm 5), (bNot (bTru (.ex (sCall F__law_shift (aC (sVar 0) (aC (sOp2 pIx2 (.nm 2) (.ex (sOp2 pSub (.nm 5) (.ex (sC (.int 1)))))) (aC (sOp2 pIx2 (.nm 2) (.nm 5)) aN)))))))⟩ [] (sVar 5) [some (.val it), some (.val (.int (n : Int))), some (.val (eVs (v :: vs))), y3, none, none] = .ok (.own (.lst (((List.range vs.length).filter fun i => !shiftB bs (v :: vs)[i]! (v :: vs)[i + 1]!).map fun (i : Nat) => eI (1 + (i : Int))))) [some (.val it), some (.val (.int (n : Int))), some (.val (eVs (v :: vs))), y3, none, none] := by
    refine sLC_if (List.range vs.length) (fun (i : Nat) => eI (1 + (i : Int))) _ _ ?_ ?_ ?_ ?_
    · have r2 := range2_any 1 (((v :: vs).length : Nat) : Int) (by omega) (by omega) (by omega) (by simp; omega)
      have et : ((((v :: vs).length : Nat) : Int) - 1).toNat = vs.length := by simp
      rw [et] at r2
      simp only [sRange2_ap, aC_ap, sC_ap, Res.bind_ok, sN1_ap, ph1_nm, ph2_nm, List.getElem?_cons_zero, List.getElem?_cons_succ, frz_val, Option.bind_some, len_eVs, Res.ofO_some, aN_ap]
      rw [r2]
      rfl
    · simp
    · intro i hi
      have hi' : i < vs.length := List.mem_range.mp hi
      have q1 : i < (v :: vs).length := by simp; omega
      have q2 : i + 1 < (v :: vs).length := by simp; omega
      have g1 := ix_eVs (v :: vs) q1
      have g2 := ix_eVs (v :: vs) q2
      have f1 : (v :: vs)[i]! = (v :: vs)[i] := getElem!_pos (v :: vs) i q1
      have f2 : (v :: vs)[i + 1]! = (v :: vs)[i + 1] := getElem!_pos (v :: vs) (i + 1) q2
      have m1 := List.getElem_mem q1
      have m2 := List.getElem_mem q2
      have hs := lshift_ok bs (v :: vs)[i] (v :: vs)[i + 1] it hit ((hv _ m1).1.trans (hv _ m2).1.symm) (by rw [(hv _ m1).1]; exact hn) (fun b hb1 => ⟨by rw [(hb b hb1).1, (hv _ m1).1], (hb b hb1).2⟩) hl (hv _ m1).2 (hv _ m2).2
      rw [f1, f2]
      have e1 : (1 : Int) + (i : Int) - 1 = (i : Int) := by omega
      have e2 : (1 : Int) + (i : Int) = ((i + 1 : Nat) : Int) := by omega
      simp only [turnC, eI, assignT_nm, wipeE_cons, wipeE_nil, List.set, bNot_ap, bTru_ap, ph1_ex, ph2_ex, sCall_ap, aC_ap, aN_ap, sVar_ap, sOp2_ap, ph1_nm, ph2_nm, sC_ap, List.getElem?_cons_zero, List.getElem?_cons_succ, Res.bind_ok, frz_val, Option.bind_some, pSub_int, e1, g1, Res.ofO_some]
      rw [e2, g2]
      simp only [Res.ofO_some, Res.bind_ok, frz_val, hs, Option.bind_some, truD_bool]
      cases hq : shiftB bs (v :: vs)[i] (v :: vs)[i + 1] <;> simp
    · rw [List.length_range]; exact sizeLine_big (by omega)
  have hz : okEq (.list (((List.range vs.length).filter fun i => !shiftB bs (v :: vs)[i]! (v :: vs)[i + 1]!).map fun (i : Nat) => eI (1 + (i : Int)))) = true := by
    refine okEq_of ?_ ?_
    · rw [plain_list, plainAll_iff]
      intro d hd
      obtain ⟨i, _, rfl⟩ := List.mem_map.mp hd
      simp [eI]
    · have := depth_mem (n := 1) (xs := ((List.range vs.length).filter fun i => !shiftB bs (v :: vs)[i]! (v :: vs)[i + 1]!).map fun (i : Nat) => eI (1 + (i : Int))) fun d hd => by
        obtain ⟨i, _, rfl⟩ := List.mem_map.mp hd
        simp [eI, PyData.depth]
      simp only [PyData.depth]
      omega
  have hq := sEqNil hk hz
  have hany := filt_any (List.range vs.length) (fun i => !shiftB bs (v :: vs)[i]! (v :: vs)[i + 1]!) fun (i : Nat) => eI (1 + (i : Int))
  have hpz := pairs_zip (v :: vs)
  rw [List.tail_cons] at hpz
  have hres : (((List.range vs.length).filter fun i => !shiftB bs (v :: vs)[i]! (v :: vs)[i + 1]!).map fun (i : Nat) => eI (1 + (i : Int))).isEmpty = ((v :: vs).zip vs).all fun p => shiftB bs p.1 p.2 := by
    rw [hpz, List.all_map]
    rw [← Bool.not_inj_iff, hany, List.any_eq_not_all_not]
    simp [Function.comp_def]
  rw [hres] at hq
  refine ofBody_rt (ρ := [some (.val it), some (.val (.int (n : Int))), some (.val (eVs (v :: vs))), y3, none, none]) (r := .val (.bool (wB bs v vs))) ?_
  refine e.trans ?_
  show (mRet _) [some (.val it), some (.val (.int (n : Int))), some (.val (eVs (v :: vs))), y3, none, none] = _
  rw [mRet_ap, sAnd_ap, sCall_ap]
  simp only [aC_ap, aN_ap, sVar_ap, sOp2_ap pIx2, ph1_nm, ph2_nm, ph1_ex, ph2_ex, sC_ap, List.getElem?_cons_zero, List.getElem?_cons_succ, Res.bind_ok, frz_val, Option.bind_some, h0, Res.ofO_some, hc, boolD_b]
  unfold wB
  cases hf : freeB bs v with
  | true => simp only [if_true, hq, Res.out_ok, Bool.true_and]
  | false => simp
end Sd.K06
set_option Elab.async false
set_option linter.all false
set_option maxRecDepth 100000
set_option maxHeartbeats 4000000
set_option autoImplicit false
namespace Sd.K06
open PySem PySem.Spec PyProof.Rows L2 C8 Sd PySem.W

theorem mTry_ap (i : Nat) (L : List (Str × Option Str)) (m : MS) (ρ : Ev) : mTry i L m ρ = match m ρ with
  | .exc e ρ' => match lkS L e with
    | some (some z) => .rt (.val (.str z)) ρ'
    | some none => .exc e ρ'
    | none => .bad
  | o => o := Eq.trans rfl rfl
theorem lk_form : lkS [(("Malformed" : Str), some ("form" : Str))] "Malformed" = some (some (Str.ofString "form")) := rfl
theorem told0 (sc th p r : D) (h : F_barred_boxes [sc, th] = .ok (.val r)) : F__law_told [.int 0, sc, th, p] = .ok (.val r) := by
  unfold F__law_told m__law_told
  refine ofBody_rt (ρ := [some (.val (.int 0)), some (.val sc), some (.val th), some (.val p), none]) ?_
  rw [mTry_ap]
  simp [h]
theorem told0_bad (sc th p : D) (h : F_barred_boxes [sc, th] = .exc "Malformed") : F__law_told [.int 0, sc, th, p] = .ok (.val (.str "form")) := by
  unfold F__law_told m__law_told
  refine ofBody_rt (ρ := [some (.val (.int 0)), some (.val sc), some (.val th), some (.val p), none]) ?_
  rw [mTry_ap]
  simp [h, lk_form]
theorem told1 (sc th p r : D) (h : F_is_clear [sc, th, p] = .ok (.val r)) : F__law_told [.int 1, sc, th, p] = .ok (.val r) := by
  unfold F__law_told m__law_told
  refine ofBody_rt (ρ := [some (.val (.int 1)), some (.val sc), some (.val th), some (.val p), none]) ?_
  rw [mTry_ap]
  simp [h]
theorem told1_bad (sc th p : D) (h : F_is_clear [sc, th, p] = .exc "Malformed") : F__law_told [.int 1, sc, th, p] = .ok (.val (.str "form")) := by
  unfold F__law_told m__law_told
  refine ofBody_rt (ρ := [some (.val (.int 1)), some (.val sc), some (.val th), some (.val p), none]) ?_
  rw [mTry_ap]
  simp [h, lk_form]
theorem told2 (sc th p r : D) (h : F_is_way [sc, th, p] = .ok (.val r)) : F__law_told [.int 2, sc, th, p] = .ok (.val r) := by
  unfold F__law_told m__law_told
  refine ofBody_rt (ρ := [some (.val (.int 2)), some (.val sc), some (.val th), some (.val p), none]) ?_
  rw [mTry_ap]
  simp [h]
theorem told2_bad (sc th p : D) (h : F_is_way [sc, th, p] = .exc "Malformed") : F__law_told [.int 2, sc, th, p] = .ok (.val (.str "form")) := by
  unfold F__law_told m__law_told
  refine ofBody_rt (ρ := [some (.val (.int 2)), some (.val sc), some (.val th), some (.val p), none]) ?_
  rw [mTry_ap]
  simp [h, lk_form]
/-! any plain value as a way: the program and the law say the same -/
theorem ways_same (n : Nat) (hn : n ≤ 1000) (ws : Ws) (th : D) (bs : List Bx) (hb : F_barred_boxes [eSc n ws, th] = .ok (.val (eT bs))) (hl : bs.length ≤ 1000000) (hbs : ∀ b ∈ bs, b.length = n ∧ ∀ p ∈ b, p.1 < p.2) (d : D) (hp : d.plain = true) (hd : d.depth ≤ 40) (hlen : ∀ ds, d = .tuple ds → ds.length ≤ 1000) (it : D) (hit : iterD it = some (bs.map eB)) :
    ∃ r : Bool, F__law_told [.int 2, eSc n ws, th, d] = .ok (.val (.bool r)) ∧ F__law_way [it, .int (n : Int), d] = .ok (.val (.bool r)) := by
  by_cases ht : d.isTuple = true
  · cases d with
    | tuple ds =>
      have hpa : PyData.plainAll ds = true := by rw [plain_tuple] at hp; exact hp
      have hda : PyData.depthAll ds ≤ 40 := by rw [depth_tup] at hd; omega
      cases hq : ds.all (placeB n) with
      | false => exact ⟨false, told2 _ _ _ _ (way_noP n ws th bs ds hb hpa hq), lway_noP it n hn ds hpa hda hq⟩
      | true =>
        have key : ∀ ds : List D, ds.all (placeB n) = true → ∃ vs : List (List Int), ds = vs.map eV ∧ ∀ x ∈ vs, x.length = n ∧ ∀ c ∈ x, -4000 ≤ c ∧ c ≤ 4000 := by
          intro ds
          induction ds with
          | nil => exact fun _ => ⟨[], rfl, by simp⟩
          | cons d ds ih =>
            intro h
            rw [List.all_cons, Bool.and_eq_true] at h
            obtain ⟨v, rfl, h1, h2⟩ := placeB_eV h.1
            obtain ⟨vs, rfl, h3⟩ := ih h.2
            refine ⟨v :: vs, rfl, ?_⟩
            intro x hx
            rcases List.mem_cons.mp hx with rfl | hx
            · exact ⟨h1, h2⟩
            · exact h3 x hx
        obtain ⟨vs, rfl, hvs⟩ := key ds hq
        cases vs with
        | nil => exact ⟨false, told2 _ _ _ _ (way_empty n ws th bs hb), lway_empty it n⟩
        | cons v vs =>
          have hl2 := hlen _ rfl
          simp at hl2
          exact ⟨wB bs v vs, told2 _ _ _ _ (way_ok n ws th bs v vs hb fun x hx => ⟨placeB_of (hvs x hx).1 (hvs x hx).2, by rw [(hvs x hx).1]; exact hn⟩), lway_ok bs n hn v vs hl (by omega) hbs hvs it hit⟩
    | _ => simp [PyData.isTuple] at ht
  · have ht' : d.isTuple = false := by simpa using ht
    exact ⟨false, told2 _ _ _ _ (way_noT n ws th d bs hb hp ht'), lway_noT it d n hp ht'⟩
/-! lengths -/
def absI (i : Int) : Int := if i < 0 then -i else i
theorem pAbs_a (i : Int) : pAbs [.int i] = some (.val (.int (absI i))) := rfl
theorem absI_swap (a b : Int) : absI (a - b) = absI (b - a) := by
  unfold absI
  split <;> split <;> omega
def distL (v w : List Int) : Int := ((v.zip w).map fun p => absI (p.1 - p.2)).sum
theorem sum_ints (xs : List Int) : pSum [.list (xs.map .int)] = some (.val (.int xs.sum)) := by
  simp only [pSum, ints_map, Option.bind_some]
  rfl
def lenL (v : List Int) (vs : List (List Int)) : Int := (((v :: vs).zip vs).map fun p => distL p.1 p.2).sum
theorem length_ok (v : List Int) (vs : List (List Int)) (h : ∀ x ∈ v :: vs, x.length ≤ 1000) : F_length_of [eVs (v :: vs)] = .ok (.val (.int (lenL v vs))) := by
  have loop : ∀ (l : List (List Int × List Int)) (acc : Int) (x2 x3 : Option Sl), (∀ p ∈ l, p.1.length ≤ 1000) → ∃ y2 y3 : Option Sl,
      forItems (.tup [(.nm 2), (.nm 3)]) (mSet 1 (sOp2 pAdd (.nm 1) (.ex (sN pSum [(.ex (sListComp [4, 5] ⟨(sZip (aC (sVar 2) (aC (sVar 3) aN))), (.tup [(.nm 4), (.nm 5)]), bYes⟩ [] (sN pAbs [(.ex (sOp2 pSub (.nm 4) (.nm 5)))])))])))) (l.map fun p => .tuple [eV p.1, eV p.2]) [some (.val (eVs (v :: vs))), some (.val (.int acc)), x2, x3, none, none] =
        .nx [some (.val (eVs (v :: vs))), some (.val (.int (acc + (l.map fun p => distL p.1 p.2).sum))), y2, y3, none, none] := by
    intro l
    induction l with
    | nil => intro acc x2 x3 _; exact ⟨x2, x3, by simp [forItems_nil]⟩
    | cons p l ih =>
      intro acc x2 x3 hp
      obtain ⟨y2, y3, e⟩ := ih (acc + distL p.1 p.2) (some (.val (eV p.1))) (some (.val (eV p.2))) fun x hx => hp x (by simp [hx])
      refine ⟨y2, y3, ?_⟩
      have hc : sListComp [4, 5] ⟨(sZip (aC (sVar 2) (aC (sVar 3) aN))), (.tup [(.nm 4), (.nm 5)]), bYes⟩ [] (sN pAbs [(.ex (sOp2 pSub (.nm 4) (.nm 5)))]) [some (.val (eVs (v :: vs))), some (.val (.int acc)), some (.val (eV p.1)), some (.val (eV p.2)), none, none] = .ok (.own (.lst (((p.1.zip p.2).map fun q => absI (q.1 - q.2)).map .int))) [some (.val (eVs (v :: vs))), some (.val (.int acc)), some (.val (eV p.1)), some (.val (eV p.2)), none, none] := by
        rw [List.map_map]
        refine sLC_one (p.1.zip p.2) (fun q => .tuple [eI q.1, eI q.2]) _ ?_ ?_ ?_ ?_
        · simp only [sZip_ap, aC_ap, aN_ap, sVar_ap, List.getElem?_cons_succ, List.getElem?_cons_zero, Res.bind_ok, frz_val, zipOf_VV, Res.ofO_some]
        · simp
        · intro q _
          simp [turnC, eI, pAbs_a]
        · refine sizeLine_big ?_
          have := hp p (by simp)
          rw [List.length_zip]
          omega
      have hs := sum_ints ((p.1.zip p.2).map fun q => absI (q.1 - q.2))
      rw [List.map_cons, forItems_cons]
      simp only [assignT_tup, assignTs_cons, assignT_nm, List.set, Option.bind_some, assignTs_nil, mSet_ap, sOp2_ap, ph1_nm, ph2_nm, ph1_ex, ph2_ex, sN1_ap, List.getElem?_cons_zero, List.getElem?_cons_succ, Res.bind_ok, hc, frz_lst, hs, Res.ofO_some, frz_val, pAdd_int, Res.out_ok, Out.turn_nx]
      rw [show ((p.1.zip p.2).map fun q => absI (q.1 - q.2)).sum = distL p.1 p.2 from rfl, e, List.map_cons, List.sum_cons, Int.add_assoc]
  obtain ⟨y2, y3, e⟩ := loop ((v :: vs).zip vs) 0 none none fun p hp => h p.1 (List.of_mem_zip hp).1
  have hz : zipOf [eVs (v :: vs), eVs vs] = some (((v :: vs).zip vs).map fun p => .tuple [eV p.1, eV p.2]) := by
    unfold eVs
    rw [zipOf_t, zipD_map]
  unfold F_length_of m_length_of
  refine ofBody_rt (ρ := [some (.val (eVs (v :: vs))), none, y2, y3, none, none]) ?_
  simp only [List.map_cons, List.map_nil, List.replicate, List.cons_append, List.nil_append, mSeq_ap, mSet_ap, sC_ap, Res.out_ok, List.set, Out.seq_nx, mFor_ap, sZip_ap, aC_ap, aN_ap, sVar_ap, sSl_ap, ph1_nm, ph2_nm, bd_ex, bd_no, intD_i, List.getElem?_cons_succ, List.getElem?_cons_zero, Res.bind_ok, frz_val, Option.bind_some, eVs_tail, Res.ofO_some, hz]
  rw [e, Out.seq_nx, Int.zero_add]
  simp [lenL]
/-! drawn scenes -/
theorem cutD_take (xs : List D) (k : Nat) : cutD xs none (some (k : Int)) = xs.take k := by
  unfold cutD
  rw [HT.sIx_none, HT.sIx_nat]
  simp
def nameL : List Str := ["a", "b", "bb", "post", "wall", "z"]
noncomputable def gScene (T H : FnL) : MS := (mSeq (mSet 6 (sSl (.ex (sLst (aC (sC (.str "a")) (aC (sC (.str "b")) (aC (sC (.str "bb")) (aC (sC (.str "post")) (aC (sC (.str "wall")) (aC (sC (.str "z")) aN)))))))) .no (.ex (sCallL T 0 (aC (sOp2 pAdd (.nm 2) (.ex (sC (.int 1)))) aN))))) (mRet (sTup (aC (sVar 1) (aC (sN pTuple [(.ex (sListComp [7] ⟨(sIt (sVar 6)), (.nm 7), bYes⟩ [] (sTup (aC (sVar 7) (aC (sCallL H 0 (aC (sVar 1) (aC (sVar 3) (aC (sVar 4) (aC (sVar 5) aN))))) aN)))))]) aN)))))
theorem scene_is : F__law_scene = ofBodyL 2 (gScene F__law_take F__law_thing) := rfl
def HOk (H : FnL) (n c : Nat) (f l : Int) : Prop := ∀ ds : List Int, ∃ (th : List Bx) (es : List Int), 0 < th.length ∧ th.length ≤ c ∧ (∀ b ∈ th, b.length = n ∧ ∀ p ∈ b, nearF f l p) ∧ (th.Pairwise fun a b => ltB a b = true) ∧ H (oI ds) [.int (n : Int), .int (c : Int), .int f, .int l] = .ok (.val (eT th)) (.own (oI es))
theorem scene_comp {H : FnL} {n c : Nat} {f l : Int} (hH : HOk H n c f l) (x2 : Sl) (nm6 : Sl) : ∀ (ns : List Str) (ds : List Int), ∃ (ws : Ws) (es : List Int), ws.length = ns.length ∧ (∀ p ∈ ws, p.2.length ≤ c ∧ ∀ b ∈ p.2, b.length = n ∧ ∀ q ∈ b, nearF f l q) ∧
    compItems (.nm 7) bYes (emit1 (sTup (aC (sVar 7) (aC (sCallL H 0 (aC (sVar 1) (aC (sVar 3) (aC (sVar 4) (aC (sVar 5) aN))))) aN)))) (ns.map .str) [some (.own (oI ds)), some (.val (.int n)), some x2, some (.val (.int c)), some (.val (.int f)), some (.val (.int l)), some nm6, none] =
      .ok (ws.map eW) [some (.own (oI es)), some (.val (.int n)), some x2, some (.val (.int c)), some (.val (.int f)), some (.val (.int l)), some nm6, none]
  | [], ds => ⟨[], ds, rfl, by simp, rfl⟩
  | s :: ns, ds => by
    obtain ⟨th, es, h1, h2, h3, h4, e⟩ := hH ds
    obtain ⟨ws, fs, l2, nr2, e2⟩ := scene_comp hH x2 nm6 ns es
    refine ⟨(s, th) :: ws, fs, by simp [l2], ?_, ?_⟩
    · intro p hp
      rcases List.mem_cons.mp hp with rfl | hp
      · exact ⟨h2, h3⟩
      · exact nr2 p hp
    · have tn : turnC (.nm 7) bYes (emit1 (sTup (aC (sVar 7) (aC (sCallL H 0 (aC (sVar 1) (aC (sVar 3) (aC (sVar 4) (aC (sVar 5) aN))))) aN)))) (.str s) [some (.own (oI ds)), some (.val (.int n)), some x2, some (.val (.int c)), some (.val (.int f)), some (.val (.int l)), some nm6, none] = .ok [eW (s, th)] [some (.own (oI es)), some (.val (.int n)), some x2, some (.val (.int c)), some (.val (.int f)), some (.val (.int l)), some nm6, none] := by
        cases nm6 <;> cases x2 <;> simp [turnC, e, eW, z2]
      rw [List.map_cons, compItems_step, tn, Res.bind_ok, e2, Res.bind_ok]
      rfl
theorem scene_gen (T H : FnL) (n c t : Nat) (f l : Int) (hT : TakeOk T) (hH : HOk H n c f l) (ds : List Int) : ∃ (ws : Ws) (es : List Int), ws.length ≤ 6 ∧ (∀ p ∈ ws, p.2.length ≤ c ∧ ∀ b ∈ p.2, b.length = n ∧ ∀ q ∈ b, nearF f l q) ∧ ofBodyL 2 (gScene T H) (oI ds) [.int (n : Int), .int (t : Int), .int (c : Int), .int f, .int l] = .ok (.val (eSc n ws)) (.own (oI es)) := by
  obtain ⟨k, e1, k0, k1, t1⟩ := hT ds ((t : Int) + 1) (by omega)
  obtain ⟨k, rfl⟩ := Int.eq_ofNat_of_zero_le k0
  obtain ⟨ws, e2, lw, hw, e⟩ := scene_comp hH (.val (.int (t : Int))) (.val (.list ((nameL.take k).map .str))) (nameL.take k) e1
  have hlen : ws.length ≤ 6 := by rw [lw]; simp [nameL]; omega
  refine ⟨ws, e2, hlen, hw, ?_⟩
  refine Eq.trans (ofBodyL_rt [some (.own (oI ds)), some (.val (.int n)), some (.val (.int t)), some (.val (.int c)), some (.val (.int f)), some (.val (.int l)), none, none] [some (.own (oI e2)), some (.val (.int n)), some (.val (.int t)), some (.val (.int c)), some (.val (.int f)), some (.val (.int l)), some (.val (.list ((nameL.take k).map .str))), none] (r := .val (eSc n ws)) rfl ?_) rfl
  have hs : pSl none (some (k : Int)) (.list [.str "a", .str "b", .str "bb", .str "post", .str "wall", .str "z"]) = some (.own (.lst ((nameL.take k).map .str))) := by
    show some (Sl.own (.lst (cutD _ none (some (k : Int))))) = _
    rw [cutD_take, List.map_take]
    rfl
  have h2 : sListComp [7] ⟨(sIt (sVar 6)), (.nm 7), bYes⟩ [] (sTup (aC (sVar 7) (aC (sCallL H 0 (aC (sVar 1) (aC (sVar 3) (aC (sVar 4) (aC (sVar 5) aN))))) aN))) [some (.own (oI e1)), some (.val (.int n)), some (.val (.int t)), some (.val (.int c)), some (.val (.int f)), some (.val (.int l)), some (.own (.lst ((nameL.take k).map .str))), none] = .ok (.own (.lst (ws.map eW))) [some (.own (oI e2)), some (.val (.int n)), some (.val (.int t)), some (.val (.int c)), some (.val (.int f)), some (.val (.int l)), some (.val (.list ((nameL.take k).map .str))), none] := by
    have := sListComp_run (vs := [7]) (dc := ⟨(sIt (sVar 6)), (.nm 7), bYes⟩) (dcs := []) (f := (sTup (aC (sVar 7) (aC (sCallL H 0 (aC (sVar 1) (aC (sVar 3) (aC (sVar 4) (aC (sVar 5) aN))))) aN)))) (ρ := [some (.own (oI e1)), some (.val (.int n)), some (.val (.int t)), some (.val (.int c)), some (.val (.int f)), some (.val (.int l)), some (.own (.lst ((nameL.take k).map .str))), none]) (ρ1 := [some (.own (oI e1)), some (.val (.int n)), some (.val (.int t)), some (.val (.int c)), some (.val (.int f)), some (.val (.int l)), some (.val (.list ((nameL.take k).map .str))), none]) (items := (nameL.take k).map .str) (by simp) e (by rw [List.length_map]; exact sizeLine_big (by omega))
    rw [this]
    simp
  unfold gScene
  rw [mSeq_ap, mSet_ap, sSl_ap]
  simp only [ph1_ex, ph2_ex, sLst_ap, aC_ap, aN_ap, sC_ap, Res.bind_ok, frz_val, List.length_cons, List.length_nil, Nat.zero_add, Nat.reduceAdd, if_pos z6, frz_lst, bd_no, bd_ex, sCallL_ap, List.getElem?_cons_zero, List.getElem?_cons_succ, sOp2_ap, ph1_nm, ph2_nm, Option.bind_some, pAdd_int, Res.ofO_some, t1, List.set, intD_i, hs, Res.out_ok, Out.seq_nx]
  rw [mRet_ap, sTup_ap, aC_ap, sVar_ap]
  simp only [List.getElem?_cons_zero, List.getElem?_cons_succ, Res.bind_ok, aC_ap, sN1_ap, ph1_ex, ph2_ex, h2, frz_lst, Option.bind_some, pTuple_list, Res.ofO_some, aN_ap, frz_val, List.length_cons, List.length_nil, Nat.zero_add, Nat.reduceAdd, if_pos z2, Res.out_ok]
  rfl
theorem law_scene (n : Nat) (h0 : 0 < n) (h1 : n ≤ 1000) (t c : Nat) (hc : 0 < c) (hc2 : c ≤ 1000) (f l : Int) (hf0 : 0 ≤ f) (hf1 : f ≤ 1000) (hl0 : 0 < l) (ds : List Int) : ∃ (ws : Ws) (es : List Int), ws.length ≤ 6 ∧ (∀ p ∈ ws, p.2.length ≤ c ∧ ∀ b ∈ p.2, b.length = n ∧ ∀ q ∈ b, nearF f l q) ∧ F__law_scene (oI ds) [.int (n : Int), .int (t : Int), .int (c : Int), .int f, .int l] = .ok (.val (eSc n ws)) (.own (oI es)) := by
  rw [scene_is]
  exact scene_gen F__law_take F__law_thing n c t f l law_take (fun ds => law_thingF f l hf0 hf1 hl0 n h0 h1 c hc hc2 ds) ds
end Sd.K06
set_option Elab.async false
set_option linter.all false
set_option maxRecDepth 100000
set_option maxHeartbeats 4000000
set_option autoImplicit false
namespace Sd.K06
open PySem PySem.Spec PyProof.Rows L2 C8 Sd PySem.W

noncomputable def a1 (fLdraws : Fn) : MS := (mSet 1 (sCall fLdraws (aC (sVar 0) aN)))
noncomputable def ab2 (fLtake : FnL) : MS := (mSet 3 (sOp2 pAdd (.ex (sC (.int 2))) (.ex (sCallL fLtake 1 (aC (sC (.int 2)) aN)))))
noncomputable def ab3 (fLscene : FnL) (fLthing : FnL) : MS := (mAsg (.tup [(.nm 4), (.nm 5)]) (sTup (aC (sCallL fLscene 1 (aC (sVar 3) (aC (sC (.int 4)) (aC (sC (.int 2)) (aC (sC (.int 4)) (aC (sC (.int 3)) aN)))))) (aC (sCallL fLthing 1 (aC (sVar 3) (aC (sC (.int 3)) (aC (sC (.int 2)) (aC (sC (.int 2)) aN))))) aN))))
noncomputable def ab4 (fLbarred : Fn) : MS := (mSet 6 (sCall fLbarred (aC (sVar 4) (aC (sVar 5) aN))))
noncomputable def ab5 (fLalike : Fn) (fLtold : Fn) : MS := (mIf (bNot (bTru (.ex (sCall fLalike (aC (sCall fLtold (aC (sC (.int 0)) (aC (sVar 4) (aC (sVar 5) (aC (sC .none) aN))))) (aC (sN pTuple [(.nm 6)]) aN)))))) (mRet (sC (.bool false))) mNext)
noncomputable def abb6 (fLtake : FnL) : MS := (mSet 8 (sN pTuple [(.ex (sListComp [9] ⟨(sRange1 (aC (sVar 3) aN)), (.nm 9), bYes⟩ [] (sOp2 pSub (.ex (sCallL fLtake 1 (aC (sC (.int 17)) aN))) (.ex (sC (.int 8))))))]))
noncomputable def abb7 (fLtake : FnL) : MS := (mIf (bAnd (bVal (sOp2 pNe (.nm 6) (.ex (sLst aN)))) (bVal (sOp2 pEq (.ex (sCallL fLtake 1 (aC (sC (.int 2)) aN))) (.ex (sC (.int 0)))))) (mSeq (mSet 10 (sOp2 pIx2 (.nm 6) (.ex (sCallL fLtake 1 (aC (sN pLen2 [(.nm 6)]) aN))))) (mSet 8 (sN pTuple [(.ex (sListComp [11, 12] ⟨(sIt (sVar 10)), (.tup [(.nm 11), (.nm 12)]), bYes⟩ [] (sOp2 pIx2 (.ex (sLst (aC (sVar 11) (aC (sVar 12) (aC (sOp2 pAdd (.nm 11) (.ex (sC (.int 1)))) (aC (sOp2 pSub (.nm 12) (.ex (sC (.int 1)))) aN)))))) (.ex (sCallL fLtake 1 (aC (sC (.int 4)) aN))))))]))) mNext)
noncomputable def abb8 (fLstands : Fn) : MS := (mSet 13 (sCall fLstands (aC (sVar 4) (aC (sVar 5) (aC (sVar 8) aN)))))
noncomputable def abb9 (fLsays : Fn) (fLtold : Fn) (fLclear : Fn) : MS := (mIf (bOr (bNot (bTru (.ex (sCall fLsays (aC (sCall fLtold (aC (sC (.int 1)) (aC (sVar 4) (aC (sVar 5) (aC (sVar 8) aN))))) (aC (sVar 13) aN)))))) (bVal (sOp2 pNe (.nm 13) (.ex (sCall fLclear (aC (sVar 6) (aC (sVar 8) aN))))))) (mRet (sC (.bool false))) mNext)
noncomputable def mabb10 : MS := (mSeq (abb6 F__law_take) (mSeq (abb7 F__law_take) (mSeq (abb8 F__law_stands) (abb9 F__law_says F__law_told F__law_clear))))
noncomputable def ab11 (fLtake : FnL) : MS := (mSet 14 (sLst (aC (sN pTuple [(.ex (sListComp [9] ⟨(sRange1 (aC (sVar 3) aN)), (.nm 9), bYes⟩ [] (sOp2 pAdd (.ex (sC (.int 9))) (.ex (sCallL fLtake 1 (aC (sC (.int 3)) aN))))))]) aN)))
noncomputable def abb12 (fLtake : FnL) : MS := (mPar2 9 15 (sCallL fLtake 1 (aC (sVar 3) aN)) (sOp2 pSub (.ex (sCallL fLtake 1 (aC (sC (.int 15)) aN))) (.ex (sC (.int 7)))))
noncomputable def abb13  : MS := (mSet 16 (sOp2 pAdd (.ex (sOp2 pAdd (.ex (sSl (.ex (sOp2 pIx2 (.nm 14) (.ex (sOp1 pNeg (.ex (sC (.int 1))))))) .no (.ex (sVar 9)))) (.ex (sTup (aC (sOp2 pAdd (.ex (sOp2 pIx2 (.ex (sOp2 pIx2 (.nm 14) (.ex (sOp1 pNeg (.ex (sC (.int 1))))))) (.nm 9))) (.nm 15)) aN))))) (.ex (sSl (.ex (sOp2 pIx2 (.nm 14) (.ex (sOp1 pNeg (.ex (sC (.int 1))))))) (.ex (sOp2 pAdd (.nm 9) (.ex (sC (.int 1))))) .no))))
noncomputable def abb14 (fLshift : Fn) (fLtake : FnL) : MS := (mIf (bOr (bTru (.ex (sCall fLshift (aC (sVar 6) (aC (sOp2 pIx2 (.nm 14) (.ex (sOp1 pNeg (.ex (sC (.int 1)))))) (aC (sVar 16) aN)))))) (bVal (sOp2 pEq (.ex (sCallL fLtake 1 (aC (sC (.int 12)) aN))) (.ex (sC (.int 0)))))) (mDrop (sLM opAppend 14 (aC (sVar 16) aN))) mNext)
noncomputable def mabb15 : MS := (mSeq (abb12 F__law_take) (mSeq (abb13) (abb14 F__law_shift F__law_take)))
noncomputable def ab16 (fLway : Fn) : MS := (mSet 17 (sCall fLway (aC (sVar 6) (aC (sVar 3) (aC (sN pTuple [(.nm 14)]) aN)))))
noncomputable def ab17  : MS := (mSet 15 (sN pSum [(.ex (sListComp [19] ⟨(sRange2 (aC (sC (.int 1)) (aC (sN pLen2 [(.nm 14)]) aN))), (.nm 19), bYes⟩ [] (sN pSum [(.ex (sListComp [18] ⟨(sRange1 (aC (sVar 3) aN)), (.nm 18), bYes⟩ [] (sN pAbs [(.ex (sOp2 pSub (.ex (sOp2 pIx2 (.ex (sOp2 pIx2 (.nm 14) (.nm 19))) (.nm 18))) (.ex (sOp2 pIx2 (.ex (sOp2 pIx2 (.nm 14) (.ex (sOp2 pSub (.nm 19) (.ex (sC (.int 1))))))) (.nm 18)))))])))])))]))
noncomputable def ab18 (fLsays : Fn) (fLtold : Fn) (flengthof : Fn) : MS := (mIf (bOr (bNot (bTru (.ex (sCall fLsays (aC (sCall fLtold (aC (sC (.int 2)) (aC (sVar 4) (aC (sVar 5) (aC (sN pTuple [(.nm 14)]) aN))))) (aC (sVar 17) aN)))))) (bAnd (bTru (.nm 17)) (bVal (sOp2 pNe (.ex (sCall flengthof (aC (sN pTuple [(.nm 14)]) aN))) (.nm 15))))) (mRet (sC (.bool false))) mNext)
noncomputable def ab19 (fLtake : FnL) : MS := (mSet 19 (sCallL fLtake 1 (aC (sN pLen2 [(.nm 14)]) aN)))
noncomputable def ab20  : MS := (mSet 20 (sN pTuple [(.nm 14)]))
noncomputable def ab21  : MS := (mSet 21 (sLst (aC (sOp2 pAdd (.ex (sSl (.nm 20) .no (.ex (sVar 19)))) (.ex (sSl (.nm 20) (.ex (sOp2 pAdd (.nm 19) (.ex (sC (.int 1))))) .no))) (aC (sOp2 pAdd (.nm 20) (.ex (sSl (.nm 20) (.ex (sOp1 pNeg (.ex (sC (.int 1))))) .no))) (aC (sOp1 pRev (.nm 20)) (aC (sN pListC2 [(.nm 20)]) (aC (sC .none) (aC (sTup aN) (aC (sOp2 pAdd (.ex (sOp2 pAdd (.ex (sSl (.nm 20) .no (.ex (sVar 19)))) (.ex (sTup (aC (sC .none) aN))))) (.ex (sSl (.nm 20) (.ex (sOp2 pAdd (.nm 19) (.ex (sC (.int 1))))) .no))) (aC (sOp2 pAdd (.ex (sOp2 pAdd (.ex (sSl (.nm 20) .no (.ex (sVar 19)))) (.ex (sTup (aC (sN pListC2 [(.ex (sOp2 pIx2 (.nm 20) (.nm 19)))]) aN))))) (.ex (sSl (.nm 20) (.ex (sOp2 pAdd (.nm 19) (.ex (sC (.int 1))))) .no))) aN))))))))))
noncomputable def ab22  : MS := (mSet 21 (sOp2 pAdd (.nm 21) (.ex (sLst (aC (sOp2 pAdd (.ex (sOp2 pAdd (.ex (sSl (.nm 20) .no (.ex (sVar 19)))) (.ex (sTup (aC (sOp2 pAdd (.ex (sOp2 pIx2 (.nm 20) (.nm 19))) (.ex (sTup (aC (sC (.int 0)) aN)))) aN))))) (.ex (sSl (.nm 20) (.ex (sOp2 pAdd (.nm 19) (.ex (sC (.int 1))))) .no))) (aC (sOp2 pAdd (.ex (sOp2 pAdd (.ex (sSl (.nm 20) .no (.ex (sVar 19)))) (.ex (sTup (aC (sOp2 pRep (.ex (sTup (aC (sC (.int 0)) aN))) (.nm 3)) aN))))) (.ex (sSl (.nm 20) (.ex (sOp2 pAdd (.nm 19) (.ex (sC (.int 1))))) .no))) aN))))))
noncomputable def ab23  : MS := (mSet 21 (sOp2 pAdd (.nm 21) (.ex (sLst (aC (sOp2 pAdd (.ex (sOp2 pAdd (.ex (sSl (.nm 20) .no (.ex (sVar 19)))) (.ex (sTup (aC (sOp2 pAdd (.ex (sSl (.ex (sOp2 pIx2 (.nm 20) (.nm 19))) .no (.ex (sOp1 pNeg (.ex (sC (.int 1))))))) (.ex (sTup (aC (sC (.int 4001)) aN)))) aN))))) (.ex (sSl (.nm 20) (.ex (sOp2 pAdd (.nm 19) (.ex (sC (.int 1))))) .no))) (aC (sOp2 pAdd (.ex (sOp2 pAdd (.ex (sSl (.nm 20) .no (.ex (sVar 19)))) (.ex (sTup (aC (sOp2 pAdd (.ex (sSl (.ex (sOp2 pIx2 (.nm 20) (.nm 19))) .no (.ex (sOp1 pNeg (.ex (sC (.int 1))))))) (.ex (sTup (aC (sC (.bool true)) aN)))) aN))))) (.ex (sSl (.nm 20) (.ex (sOp2 pAdd (.nm 19) (.ex (sC (.int 1))))) .no))) aN))))))
noncomputable def ab24 (fLsays : Fn) (fLtold : Fn) (fLway : Fn) : MS := (mIf (bVal (sOp2 pNe (.ex (sListComp [22] ⟨(sIt (sVar 21)), (.nm 22), (bNot (bTru (.ex (sCall fLsays (aC (sCall fLtold (aC (sC (.int 2)) (aC (sVar 4) (aC (sVar 5) (aC (sVar 22) aN))))) (aC (sCall fLway (aC (sVar 6) (aC (sVar 3) (aC (sVar 22) aN)))) aN))))))⟩ [] (sVar 22))) (.ex (sLst aN)))) (mRet (sC (.bool false))) mNext)
noncomputable def ab25 (fLthing : FnL) : MS := (mSet 23 (sLst (aC (sC .none) (aC (sTup aN) (aC (sOp2 pIx2 (.nm 5) (.ex (sC (.int 0)))) (aC (sN pListC2 [(.nm 5)]) (aC (sCallL fLthing 1 (aC (sOp2 pSub (.ex (sC (.int 5))) (.nm 3)) (aC (sC (.int 2)) (aC (sC (.int 2)) (aC (sC (.int 2)) aN))))) (aC (sOp2 pAdd (.nm 5) (.ex (sSl (.nm 5) (.ex (sOp1 pNeg (.ex (sC (.int 1))))) .no))) aN))))))))
noncomputable def ab26 (fLtold : Fn) : MS := (mIf (bVal (sOp2 pNe (.ex (sListComp [22] ⟨(sIt (sVar 23)), (.nm 22), (bVal (sOp2 pNe (.ex (sLst (aC (sCall fLtold (aC (sC (.int 0)) (aC (sVar 4) (aC (sVar 22) (aC (sC .none) aN))))) (aC (sCall fLtold (aC (sC (.int 1)) (aC (sVar 4) (aC (sVar 22) (aC (sOp2 pRep (.ex (sTup (aC (sC (.int 0)) aN))) (.nm 3)) aN))))) (aC (sCall fLtold (aC (sC (.int 2)) (aC (sVar 4) (aC (sVar 22) (aC (sTup (aC (sOp2 pRep (.ex (sTup (aC (sC (.int 0)) aN))) (.nm 3)) aN)) aN))))) aN))))) (.ex (sOp2 pRep (.ex (sLst (aC (sC (.str "form")) aN))) (.ex (sC (.int 3)))))))⟩ [] (sVar 22))) (.ex (sLst aN)))) (mRet (sC (.bool false))) mNext)
noncomputable def ab27 (fLtold : Fn) : MS := (mIf (bVal (sOp2 pNe (.ex (sListComp [8] ⟨(sIt (sLst (aC (sC .none) (aC (sTup aN) (aC (sOp2 pRep (.ex (sTup (aC (sC (.int 0)) aN))) (.ex (sOp2 pAdd (.nm 3) (.ex (sC (.int 1)))))) (aC (sOp2 pRep (.ex (sLst (aC (sC (.int 0)) aN))) (.nm 3)) (aC (sOp2 pRep (.ex (sTup (aC (sC (.int 4001)) aN))) (.nm 3)) (aC (sOp2 pRep (.ex (sTup (aC (sC .none) aN))) (.nm 3)) aN)))))))), (.nm 8), (bVal (sOp2 pNe (.ex (sCall fLtold (aC (sC (.int 1)) (aC (sVar 4) (aC (sVar 5) (aC (sVar 8) aN)))))) (.ex (sC (.str "form")))))⟩ [] (sVar 8))) (.ex (sLst aN)))) (mRet (sC (.bool false))) mNext)
noncomputable def mab28 : MS := (mSeq (ab2 F__law_take) (mSeq (ab3 F__law_scene F__law_thing) (mSeq (ab4 F__law_barred) (mSeq (ab5 F__law_alike F__law_told) (mSeq (mFor (sRange1 (aC (sC (.int 8)) aN)) (.nm 7) mabb10) (mSeq (ab11 F__law_take) (mSeq (mFor (sRange1 (aC (sC (.int 8)) aN)) (.nm 7) mabb15) (mSeq (ab16 F__law_way) (mSeq (ab17) (mSeq (ab18 F__law_says F__law_told F_length_of) (mSeq (ab19 F__law_take) (mSeq (ab20) (mSeq (ab21) (mSeq (ab22) (mSeq (ab23) (mSeq (ab24 F__law_says F__law_told F__law_way) (mSeq (ab25 F__law_thing) (mSeq (ab26 F__law_told) (ab27 F__law_told)))))))))))))))))))
noncomputable def a29  : MS := (mRet (sC (.bool true)))
noncomputable def ma30 : MS := (mSeq (a1 F__law_draws) (mSeq (mFor (sRange1 (aC (sC (.int 5)) aN)) (.nm 2) mab28) (a29)))
theorem law_is : F_law = ofBody 23 ma30 := rfl
end Sd.K06
set_option Elab.async false
set_option linter.all false
set_option maxRecDepth 100000
set_option maxHeartbeats 4000000
set_option autoImplicit false
namespace Sd.K06
open PySem PySem.Spec PyProof.Rows L2 C8 Sd PySem.W
section
variable {S x1 x2 x3 x4 x5 x6 x7 x8 x9 x10 x11 x12 x13 x14 x15 x16 x17 x18 x19 x20 x21 x22 x23 : Option Sl}


theorem r2 {T : FnL} (hT : TakeOk T) (ds : List Int) : ∃ (n : Nat) (es : List Int), (n = 2 ∨ n = 3) ∧ ab2 T [S, some (.own (oI ds)), x2, x3, x4, x5, x6, x7, x8, x9, x10, x11, x12, x13, x14, x15, x16, x17, x18, x19, x20, x21, x22, x23] = .nx [S, some (.own (oI es)), x2, some (.val (.int (n : Int))), x4, x5, x6, x7, x8, x9, x10, x11, x12, x13, x14, x15, x16, x17, x18, x19, x20, x21, x22, x23] := by
  obtain ⟨r, es, r0, r1, e⟩ := hT ds 2 (by omega)
  refine ⟨2 + r.toNat, es, by omega, ?_⟩
  unfold ab2
  simp [e]
  omega
def SceneOk (F : FnL) (n : Nat) : Prop := ∀ ds : List Int, ∃ (ws : Ws) (es : List Int), ws.length ≤ 6 ∧ (∀ p ∈ ws, p.2.length ≤ 2 ∧ ∀ b ∈ p.2, b.length = n ∧ ∀ q ∈ b, nearF 4 3 q) ∧ F (oI ds) [.int (n : Int), .int 4, .int 2, .int 4, .int 3] = .ok (.val (eSc n ws)) (.own (oI es))
def ThingOk (F : FnL) (n c : Nat) : Prop := ∀ ds : List Int, ∃ (th : List Bx) (es : List Int), 0 < th.length ∧ th.length ≤ c ∧ (∀ b ∈ th, b.length = n ∧ ∀ p ∈ b, nearF 2 2 p) ∧ (th.Pairwise fun a b => ltB a b = true) ∧ F (oI ds) [.int (n : Int), .int (c : Int), .int 2, .int 2] = .ok (.val (eT th)) (.own (oI es))
theorem r3 {SF TF : FnL} {n : Nat} (hS : SceneOk SF n) (hH : ThingOk TF n 3) (ds : List Int) : ∃ (ws : Ws) (th : List Bx) (es : List Int), (ws.length ≤ 6 ∧ (∀ p ∈ ws, p.2.length ≤ 2 ∧ ∀ b ∈ p.2, b.length = n ∧ ∀ q ∈ b, nearF 4 3 q)) ∧ (0 < th.length ∧ th.length ≤ 3 ∧ (∀ b ∈ th, b.length = n ∧ ∀ p ∈ b, nearF 2 2 p) ∧ (th.Pairwise fun a b => ltB a b = true)) ∧
    ab3 SF TF [S, some (.own (oI ds)), x2, some (.val (.int (n : Int))), x4, x5, x6, x7, x8, x9, x10, x11, x12, x13, x14, x15, x16, x17, x18, x19, x20, x21, x22, x23] = .nx [S, some (.own (oI es)), x2, some (.val (.int (n : Int))), some (.val (eSc n ws)), some (.val (eT th)), x6, x7, x8, x9, x10, x11, x12, x13, x14, x15, x16, x17, x18, x19, x20, x21, x22, x23] := by
  obtain ⟨ws, e1, q1, q2, t1⟩ := hS ds
  obtain ⟨th, e2, r1, r2, r3, r4, t2⟩ := hH e1
  have t2' : TF (oI e1) [.int (n : Int), .int 3, .int 2, .int 2] = .ok (.val (eT th)) (.own (oI e2)) := t2
  refine ⟨ws, th, e2, ⟨q1, q2⟩, ⟨r1, r2, r3, r4⟩, ?_⟩
  unfold ab3
  simp [t1, t2', z2]
theorem r4 {BF : Fn} {n : Nat} {ws : Ws} {th bs : List Bx} (h : BF [eSc n ws, eT th] = .ok (.own (.lst (bs.map eB)))) : ab4 BF [S, x1, x2, x3, some (.val (eSc n ws)), some (.val (eT th)), x6, x7, x8, x9, x10, x11, x12, x13, x14, x15, x16, x17, x18, x19, x20, x21, x22, x23] = .nx [S, x1, x2, x3, some (.val (eSc n ws)), some (.val (eT th)), some (.own (.lst (bs.map eB))), x7, x8, x9, x10, x11, x12, x13, x14, x15, x16, x17, x18, x19, x20, x21, x22, x23] := by
  unfold ab4
  simp [h]
theorem tup_list (bs : List Bx) : pTuple [.list (bs.map eB)] = some (.val (eT bs)) := rfl
theorem r5 {AF TF : Fn} {n : Nat} {ws : Ws} {th bs : List Bx} (h1 : TF [.int 0, eSc n ws, eT th, .none] = .ok (.val (eT bs))) (h2 : AF [eT bs, eT bs] = .ok (.val (.bool true))) : ab5 AF TF [S, x1, x2, x3, some (.val (eSc n ws)), some (.val (eT th)), some (.own (.lst (bs.map eB))), x7, x8, x9, x10, x11, x12, x13, x14, x15, x16, x17, x18, x19, x20, x21, x22, x23] = .nx [S, x1, x2, x3, some (.val (eSc n ws)), some (.val (eT th)), some (.own (.lst (bs.map eB))), x7, x8, x9, x10, x11, x12, x13, x14, x15, x16, x17, x18, x19, x20, x21, x22, x23] := by
  have e : PyData.tuple (bs.map eB) = eT bs := rfl
  unfold ab5
  simp [h1, h2, e]
theorem comp_take {T : FnL} (hT : TakeOk T) (f : M Sl) (b : Int) (g : Int → Int) (hb : 0 < b) (hf : ∀ (ds es : List Int) (r : Int) (x9 : Option Sl), T (oI ds) [.int b] = .ok (.val (.int r)) (.own (oI es)) → f [S, some (.own (oI ds)), x2, x3, x4, x5, x6, x7, x8, x9, x10, x11, x12, x13, x14, x15, x16, x17, x18, x19, x20, x21, x22, x23] = .ok (.val (.int (g r))) [S, some (.own (oI es)), x2, x3, x4, x5, x6, x7, x8, x9, x10, x11, x12, x13, x14, x15, x16, x17, x18, x19, x20, x21, x22, x23]) : ∀ (is : List Nat) (ds : List Int), ∃ (vs es : List Int), vs.length = is.length ∧ (∀ v ∈ vs, ∃ r, 0 ≤ r ∧ r < b ∧ v = g r) ∧
    compItems (.nm 9) bYes (emit1 f) (is.map eN) [S, some (.own (oI ds)), x2, x3, x4, x5, x6, x7, x8, none, x10, x11, x12, x13, x14, x15, x16, x17, x18, x19, x20, x21, x22, x23] = .ok (vs.map eI) [S, some (.own (oI es)), x2, x3, x4, x5, x6, x7, x8, none, x10, x11, x12, x13, x14, x15, x16, x17, x18, x19, x20, x21, x22, x23]
  | [], ds => ⟨[], ds, rfl, by simp, rfl⟩
  | i :: is, ds => by
    obtain ⟨r, es, r0, r1, e⟩ := hT ds b hb
    obtain ⟨vs, fs, l2, nr2, e2⟩ := comp_take hT f b g hb hf is es
    refine ⟨g r :: vs, fs, by simp [l2], ?_, ?_⟩
    · intro v hv
      rcases List.mem_cons.mp hv with rfl | hv
      · exact ⟨r, r0, r1, rfl⟩
      · exact nr2 v hv
    · have hf' := hf ds es r (some (.val (eN i))) e
      have tn : turnC (.nm 9) bYes (emit1 f) (eN i) [S, some (.own (oI ds)), x2, x3, x4, x5, x6, x7, x8, none, x10, x11, x12, x13, x14, x15, x16, x17, x18, x19, x20, x21, x22, x23] = .ok [eI (g r)] [S, some (.own (oI es)), x2, x3, x4, x5, x6, x7, x8, none, x10, x11, x12, x13, x14, x15, x16, x17, x18, x19, x20, x21, x22, x23] := by
        simp only [turnC, assignT_nm, List.set, bYes_ap, Res.bind_ok, if_true, emit1_ap, hf', frz_val, slots_nm, wipeE_cons, wipeE_nil]
        rfl
      rw [List.map_cons, compItems_step, tn, Res.bind_ok, e2, Res.bind_ok]
      rfl
theorem b6 {T : FnL} {n : Nat} (hT : TakeOk T) (hn : n ≤ 1000) (k9 : keepV x9 = x9) (ds : List Int) : ∃ (v es : List Int), v.length = n ∧ (∀ x ∈ v, -8 ≤ x ∧ x ≤ 8) ∧ abb6 T [S, some (.own (oI ds)), x2, some (.val (.int (n : Int))), x4, x5, x6, x7, x8, x9, x10, x11, x12, x13, x14, x15, x16, x17, x18, x19, x20, x21, x22, x23] = .nx [S, some (.own (oI es)), x2, some (.val (.int (n : Int))), x4, x5, x6, x7, some (.val (eV v)), x9, x10, x11, x12, x13, x14, x15, x16, x17, x18, x19, x20, x21, x22, x23] := by
  obtain ⟨v, es, l, r, e⟩ := comp_take (S := S) (x3 := some (.val (.int (n : Int)))) (x2 := x2) (x4 := x4) (x5 := x5) (x6 := x6) (x7 := x7) (x8 := x8) (x10 := x10) (x11 := x11) (x12 := x12) (x13 := x13) (x14 := x14) (x15 := x15) (x16 := x16) (x17 := x17) (x18 := x18) (x19 := x19) (x20 := x20) (x21 := x21) (x22 := x22) (x23 := x23) hT (sOp2 pSub (.ex (sCallL T 1 (aC (sC (.int 17)) aN))) (.ex (sC (.int 8)))) 17 (fun r => r - 8) (by omega) (fun ds es r x9 h => by simp [h]) (List.range n) ds
  rw [List.length_range] at l
  refine ⟨v, es, l, fun x hx => by obtain ⟨r', h0, h1, rfl⟩ := r x hx; omega, ?_⟩
  have h1 : ∀ x1 : Option Sl, (sRange1 (aC (sVar 3) aN)) [S, x1, x2, some (.val (.int (n : Int))), x4, x5, x6, x7, x8, x9, x10, x11, x12, x13, x14, x15, x16, x17, x18, x19, x20, x21, x22, x23] = .ok ((List.range n).map eN) [S, x1, x2, some (.val (.int (n : Int))), x4, x5, x6, x7, x8, x9, x10, x11, x12, x13, x14, x15, x16, x17, x18, x19, x20, x21, x22, x23] := fun x1 => sRange1_s (by simp) (by omega)
  have h2 : (sListComp [9] ⟨(sRange1 (aC (sVar 3) aN)), (.nm 9), bYes⟩ [] (sOp2 pSub (.ex (sCallL T 1 (aC (sC (.int 17)) aN))) (.ex (sC (.int 8))))) [S, some (.own (oI ds)), x2, some (.val (.int (n : Int))), x4, x5, x6, x7, x8, x9, x10, x11, x12, x13, x14, x15, x16, x17, x18, x19, x20, x21, x22, x23] = .ok (.own (.lst (v.map eI))) (restoreE [S, some (.own (oI ds)), x2, some (.val (.int (n : Int))), x4, x5, x6, x7, x8, x9, x10, x11, x12, x13, x14, x15, x16, x17, x18, x19, x20, x21, x22, x23] [S, some (.own (oI es)), x2, some (.val (.int (n : Int))), x4, x5, x6, x7, x8, none, x10, x11, x12, x13, x14, x15, x16, x17, x18, x19, x20, x21, x22, x23] [9]) := by
    refine sListComp_run (ρ1 := [S, some (.own (oI ds)), x2, some (.val (.int (n : Int))), x4, x5, x6, x7, x8, x9, x10, x11, x12, x13, x14, x15, x16, x17, x18, x19, x20, x21, x22, x23]) (ρ2 := [S, some (.own (oI es)), x2, some (.val (.int (n : Int))), x4, x5, x6, x7, x8, none, x10, x11, x12, x13, x14, x15, x16, x17, x18, x19, x20, x21, x22, x23]) (items := (List.range n).map eN) (xs := v.map eI) ?_ ?_ ?_
    · dsimp only
      exact h1 _
    · rw [compGo_nil]
      simp only [wipeE_cons, wipeE_nil, List.set]
      exact e
    · rw [List.length_map]
      exact sizeLine_big (by omega)
  unfold abb6
  rw [mSet_ap, sN1_ap, ph1_ex, h2]
  simp [eV, k9]
theorem comp_pick {T : FnL} (hT : TakeOk T) : ∀ (b : Bx) (ds : List Int), ∃ (vs es : List Int), vs.length = b.length ∧ (∀ v ∈ vs, ∃ p ∈ b, v = p.1 ∨ v = p.2 ∨ v = p.1 + 1 ∨ v = p.2 - 1) ∧
    compItems (.tup [(.nm 11), (.nm 12)]) bYes (emit1 (sOp2 pIx2 (.ex (sLst (aC (sVar 11) (aC (sVar 12) (aC (sOp2 pAdd (.nm 11) (.ex (sC (.int 1)))) (aC (sOp2 pSub (.nm 12) (.ex (sC (.int 1)))) aN)))))) (.ex (sCallL T 1 (aC (sC (.int 4)) aN))))) (b.map eP) [S, some (.own (oI ds)), x2, x3, x4, x5, x6, x7, x8, x9, x10, none, none, x13, x14, x15, x16, x17, x18, x19, x20, x21, x22, x23] = .ok (vs.map eI) [S, some (.own (oI es)), x2, x3, x4, x5, x6, x7, x8, x9, x10, none, none, x13, x14, x15, x16, x17, x18, x19, x20, x21, x22, x23]
  | [], ds => ⟨[], ds, rfl, by simp, rfl⟩
  | p :: b, ds => by
    obtain ⟨r, es, r0, r1, e⟩ := hT ds 4 (by omega)
    obtain ⟨vs, fs, l2, nr2, e2⟩ := comp_pick hT b es
    obtain ⟨x, hx, ax⟩ := atI_mem (xs := [p.1, p.2, p.1 + 1, p.2 - 1]) (i := r) r0 (by simpa using r1)
    have ax' : L2.atI [PyData.int p.1, .int p.2, .int (p.1 + 1), .int (p.2 - 1)] r = some (.int x) := by
      obtain ⟨k, rfl⟩ := Int.eq_ofNat_of_zero_le r0
      have hk : k < 4 := by omega
      have q1 : L2.atI [p.1, p.2, p.1 + 1, p.2 - 1] (k : Int) = some ([p.1, p.2, p.1 + 1, p.2 - 1][k]'(by simpa using hk)) := atI_lt (by simpa using hk)
      have q2 : L2.atI ([p.1, p.2, p.1 + 1, p.2 - 1].map PyData.int) (k : Int) = some (PyData.int ([p.1, p.2, p.1 + 1, p.2 - 1][k]'(by simpa using hk))) := ix_map PyData.int _ (by simpa using hk)
      rw [q1] at ax
      cases ax
      exact q2
    refine ⟨x :: vs, fs, by simp [l2], ?_, ?_⟩
    · intro v hv
      rcases List.mem_cons.mp hv with rfl | hv
      · simp at hx
        exact ⟨p, by simp, hx⟩
      · obtain ⟨q, hq, h⟩ := nr2 v hv
        exact ⟨q, by simp [hq], h⟩
    · have z4 : 4 ≤ sizeLine := sizeLine_big (by omega)
      have tn : turnC (.tup [(.nm 11), (.nm 12)]) bYes (emit1 (sOp2 pIx2 (.ex (sLst (aC (sVar 11) (aC (sVar 12) (aC (sOp2 pAdd (.nm 11) (.ex (sC (.int 1)))) (aC (sOp2 pSub (.nm 12) (.ex (sC (.int 1)))) aN)))))) (.ex (sCallL T 1 (aC (sC (.int 4)) aN))))) (eP p) [S, some (.own (oI ds)), x2, x3, x4, x5, x6, x7, x8, x9, x10, none, none, x13, x14, x15, x16, x17, x18, x19, x20, x21, x22, x23] = .ok [eI x] [S, some (.own (oI es)), x2, x3, x4, x5, x6, x7, x8, x9, x10, none, none, x13, x14, x15, x16, x17, x18, x19, x20, x21, x22, x23] := by
        simp [turnC, eP, z4, e, ax', eI]
      rw [List.map_cons, compItems_step, tn, Res.bind_ok, e2, Res.bind_ok]
      rfl
def PlaceOk (n : Nat) (v : List Int) : Prop := v.length = n ∧ ∀ x ∈ v, -1000 ≤ x ∧ x ≤ 1000
def BarsOk (n : Nat) (bs : List Bx) : Prop := bs.length ≤ 100 ∧ ∀ b ∈ bs, b.length = n ∧ ∀ p ∈ b, -500 ≤ p.1 ∧ p.1 < p.2 ∧ p.2 ≤ 500
theorem b7 {T : FnL} {n : Nat} {bs : List Bx} {v : List Int} {s6 : Sl} (hT : TakeOk T) (hn : n ≤ 1000) (h6 : s6.frz = .list (bs.map eB)) (hb : BarsOk n bs) (hv : PlaceOk n v) (ds : List Int) : ∃ (w es : List Int) (y10 : Option Sl), PlaceOk n w ∧ abb7 T [S, some (.own (oI ds)), x2, x3, x4, x5, some s6, x7, some (.val (eV v)), x9, x10, none, none, x13, x14, x15, x16, x17, x18, x19, x20, x21, x22, x23] = .nx [S, some (.own (oI es)), x2, x3, x4, x5, some s6, x7, some (.val (eV w)), x9, y10, none, none, x13, x14, x15, x16, x17, x18, x19, x20, x21, x22, x23] := by
  have e0 : (0 : Nat) ≤ sizeLine := Nat.zero_le _
  have hne := neNil bs
  by_cases hbs : bs = []
  · refine ⟨v, ds, x10, hv, ?_⟩
    subst hbs
    have hp : pNe s6.frz (.list []) = some (.val (.bool false)) := by rw [h6]; exact hne
    unfold abb7
    cases s6 with
    | val d => simp only [frz_val] at hp; simp [hp]
    | own o => cases o <;> simp at hp <;> simp [hp]
  · have hie : bs.isEmpty = false := by simp [hbs]
    rw [hie] at hne
    have hp : pNe s6.frz (.list []) = some (.val (.bool true)) := by rw [h6]; exact hne
    have hpl : pLen2 [s6.frz] = some (.val (.int bs.length)) := by rw [h6, pLen2_list, List.length_map]
    have hpos : 0 < bs.length := List.length_pos_iff.mpr hbs
    obtain ⟨r, e1, r0, r1, t1⟩ := hT ds 2 (by omega)
    by_cases hr : r = 0
    · subst hr
      obtain ⟨k, e2, k0, k1, t2⟩ := hT e1 bs.length (by omega)
      obtain ⟨k, rfl⟩ := Int.eq_ofNat_of_zero_le k0
      have hk : k < bs.length := by omega
      have hb1 := hb.2 _ (List.getElem_mem hk)
      have hpx : pIx2 s6.frz (.int (k : Int)) = some (.val (eB bs[k])) := by rw [h6, pIx2_l, ix_map eB bs hk]; rfl
      obtain ⟨w, e3, lw, hw, hc⟩ := comp_pick (S := S) (x2 := x2) (x3 := x3) (x4 := x4) (x5 := x5) (x6 := some s6) (x7 := x7) (x8 := some (.val (eV v))) (x9 := x9) (x10 := some (.val (eB bs[k]))) (x13 := x13) (x14 := x14) (x15 := x15) (x16 := x16) (x17 := x17) (x18 := x18) (x19 := x19) (x20 := x20) (x21 := x21) (x22 := x22) (x23 := x23) hT bs[k] e2
      refine ⟨w, e3, some (.val (eB bs[k])), ⟨by rw [lw]; exact hb1.1, ?_⟩, ?_⟩
      · intro x hx
        obtain ⟨p, hp1, h⟩ := hw x hx
        have := hb1.2 p hp1
        omega
      · have h2 : sListComp [11, 12] ⟨(sIt (sVar 10)), (.tup [(.nm 11), (.nm 12)]), bYes⟩ [] (sOp2 pIx2 (.ex (sLst (aC (sVar 11) (aC (sVar 12) (aC (sOp2 pAdd (.nm 11) (.ex (sC (.int 1)))) (aC (sOp2 pSub (.nm 12) (.ex (sC (.int 1)))) aN)))))) (.ex (sCallL T 1 (aC (sC (.int 4)) aN)))) [S, some (.own (oI e2)), x2, x3, x4, x5, some s6, x7, some (.val (eV v)), x9, some (.val (eB bs[k])), none, none, x13, x14, x15, x16, x17, x18, x19, x20, x21, x22, x23] = .ok (.own (.lst (w.map eI))) [S, some (.own (oI e3)), x2, x3, x4, x5, some s6, x7, some (.val (eV v)), x9, some (.val (eB bs[k])), none, none, x13, x14, x15, x16, x17, x18, x19, x20, x21, x22, x23] := by
          have := sListComp_run (vs := [11, 12]) (dc := ⟨(sIt (sVar 10)), (.tup [(.nm 11), (.nm 12)]), bYes⟩) (dcs := []) (f := (sOp2 pIx2 (.ex (sLst (aC (sVar 11) (aC (sVar 12) (aC (sOp2 pAdd (.nm 11) (.ex (sC (.int 1)))) (aC (sOp2 pSub (.nm 12) (.ex (sC (.int 1)))) aN)))))) (.ex (sCallL T 1 (aC (sC (.int 4)) aN))))) (ρ := [S, some (.own (oI e2)), x2, x3, x4, x5, some s6, x7, some (.val (eV v)), x9, some (.val (eB bs[k])), none, none, x13, x14, x15, x16, x17, x18, x19, x20, x21, x22, x23]) (ρ1 := [S, some (.own (oI e2)), x2, x3, x4, x5, some s6, x7, some (.val (eV v)), x9, some (.val (eB bs[k])), none, none, x13, x14, x15, x16, x17, x18, x19, x20, x21, x22, x23]) (items := bs[k].map eP) (by simp [iterD_B]) (by rw [compGo_nil]; simp only [wipeE_cons, wipeE_nil, List.set]; exact hc) (by rw [List.length_map]; exact sizeLine_big (by rw [lw, hb1.1]; omega))
          rw [this]
          simp
        have he : PyData.tuple (w.map eI) = eV w := rfl
        unfold abb7
        simp only [mIf_ap, bAnd_ap, bVal_ap, sOp2_ap pNe, ph1_nm, ph2_nm, ph1_ex, ph2_ex, sLst_ap, aN_ap, List.getElem?_cons_zero, List.getElem?_cons_succ, Res.bind_ok, List.length_nil, if_pos e0, frz_lst, Option.bind_some, hp, Res.ofO_some, frz_val, boolD_b, if_true, sOp2_ap pEq, sCallL_ap, aC_ap, sC_ap, t1, List.set, pEq_int, Res.out_ok, mSeq_ap, mSet_ap, sOp2_ap pIx2, sN1_ap, hpl, t2, hpx, Out.seq_nx, beq_self_eq_true]
        rw [h2]
        simp [he]
    · refine ⟨v, e1, x10, hv, ?_⟩
      unfold abb7
      have hr' : (r == 0) = false := by simp [hr]
      simp only [mIf_ap, bAnd_ap, bVal_ap, sOp2_ap pNe, ph1_nm, ph2_nm, ph1_ex, ph2_ex, sLst_ap, aN_ap, List.getElem?_cons_zero, List.getElem?_cons_succ, Res.bind_ok, List.length_nil, if_pos e0, frz_lst, Option.bind_some, hp, Res.ofO_some, frz_val, boolD_b, if_true, sOp2_ap pEq, sCallL_ap, aC_ap, sC_ap, t1, List.set, pEq_int, hr', Bool.false_eq_true, if_false, mNext_ap, Res.out_ok]
theorem b8 {SF : Fn} {n : Nat} {ws : Ws} {th bs : List Bx} {v : List Int} (h : SF [eSc n ws, eT th, eV v] = .ok (.val (.bool (freeB bs v)))) : abb8 SF [S, x1, x2, x3, some (.val (eSc n ws)), some (.val (eT th)), x6, x7, some (.val (eV v)), x9, x10, x11, x12, x13, x14, x15, x16, x17, x18, x19, x20, x21, x22, x23] = .nx [S, x1, x2, x3, some (.val (eSc n ws)), some (.val (eT th)), x6, x7, some (.val (eV v)), x9, x10, x11, x12, some (.val (.bool (freeB bs v))), x14, x15, x16, x17, x18, x19, x20, x21, x22, x23] := by
  unfold abb8
  simp [h]
theorem b9 {SY TF CF : Fn} {n : Nat} {ws : Ws} {th bs : List Bx} {v : List Int} {s6 : Sl} (h6 : s6 = .own (.lst (bs.map eB)) ∨ s6 = .val (.list (bs.map eB))) (hS : SayOk SY) (h1 : TF [.int 1, eSc n ws, eT th, eV v] = .ok (.val (.bool (freeB bs v)))) (h2 : CF [.list (bs.map eB), eV v] = .ok (.val (.bool (freeB bs v)))) : abb9 SY TF CF [S, x1, x2, x3, some (.val (eSc n ws)), some (.val (eT th)), some s6, x7, some (.val (eV v)), x9, x10, x11, x12, some (.val (.bool (freeB bs v))), x14, x15, x16, x17, x18, x19, x20, x21, x22, x23] = .nx [S, x1, x2, x3, some (.val (eSc n ws)), some (.val (eT th)), some (.val (.list (bs.map eB))), x7, some (.val (eV v)), x9, x10, x11, x12, some (.val (.bool (freeB bs v))), x14, x15, x16, x17, x18, x19, x20, x21, x22, x23] := by
  have hs := hS (freeB bs v) (freeB bs v)
  unfold abb9
  rcases h6 with rfl | rfl <;> simp [h1, h2, hs]
theorem r11 {T : FnL} {n : Nat} (hT : TakeOk T) (hn : n ≤ 1000) (k9 : keepV x9 = x9) (ds : List Int) : ∃ (v es : List Int), v.length = n ∧ (∀ x ∈ v, 9 ≤ x ∧ x ≤ 11) ∧ ab11 T [S, some (.own (oI ds)), x2, some (.val (.int (n : Int))), x4, x5, x6, x7, x8, x9, x10, x11, x12, x13, x14, x15, x16, x17, x18, x19, x20, x21, x22, x23] = .nx [S, some (.own (oI es)), x2, some (.val (.int (n : Int))), x4, x5, x6, x7, x8, x9, x10, x11, x12, x13, some (.own (.lst [eV v])), x15, x16, x17, x18, x19, x20, x21, x22, x23] := by
  obtain ⟨v, es, l, r, e⟩ := comp_take (S := S) (x3 := some (.val (.int (n : Int)))) (x2 := x2) (x4 := x4) (x5 := x5) (x6 := x6) (x7 := x7) (x8 := x8) (x10 := x10) (x11 := x11) (x12 := x12) (x13 := x13) (x14 := x14) (x15 := x15) (x16 := x16) (x17 := x17) (x18 := x18) (x19 := x19) (x20 := x20) (x21 := x21) (x22 := x22) (x23 := x23) hT (sOp2 pAdd (.ex (sC (.int 9))) (.ex (sCallL T 1 (aC (sC (.int 3)) aN)))) 3 (fun r => 9 + r) (by omega) (fun ds es r x9 h => by simp [h]) (List.range n) ds
  rw [List.length_range] at l
  refine ⟨v, es, l, fun x hx => by obtain ⟨r', h0, h1, rfl⟩ := r x hx; omega, ?_⟩
  have h1 : ∀ x1 : Option Sl, (sRange1 (aC (sVar 3) aN)) [S, x1, x2, some (.val (.int (n : Int))), x4, x5, x6, x7, x8, x9, x10, x11, x12, x13, x14, x15, x16, x17, x18, x19, x20, x21, x22, x23] = .ok ((List.range n).map eN) [S, x1, x2, some (.val (.int (n : Int))), x4, x5, x6, x7, x8, x9, x10, x11, x12, x13, x14, x15, x16, x17, x18, x19, x20, x21, x22, x23] := fun x1 => sRange1_s (by simp) (by omega)
  have h2 : (sListComp [9] ⟨(sRange1 (aC (sVar 3) aN)), (.nm 9), bYes⟩ [] (sOp2 pAdd (.ex (sC (.int 9))) (.ex (sCallL T 1 (aC (sC (.int 3)) aN))))) [S, some (.own (oI ds)), x2, some (.val (.int (n : Int))), x4, x5, x6, x7, x8, x9, x10, x11, x12, x13, x14, x15, x16, x17, x18, x19, x20, x21, x22, x23] = .ok (.own (.lst (v.map eI))) (restoreE [S, some (.own (oI ds)), x2, some (.val (.int (n : Int))), x4, x5, x6, x7, x8, x9, x10, x11, x12, x13, x14, x15, x16, x17, x18, x19, x20, x21, x22, x23] [S, some (.own (oI es)), x2, some (.val (.int (n : Int))), x4, x5, x6, x7, x8, none, x10, x11, x12, x13, x14, x15, x16, x17, x18, x19, x20, x21, x22, x23] [9]) := by
    refine sListComp_run (ρ1 := [S, some (.own (oI ds)), x2, some (.val (.int (n : Int))), x4, x5, x6, x7, x8, x9, x10, x11, x12, x13, x14, x15, x16, x17, x18, x19, x20, x21, x22, x23]) (ρ2 := [S, some (.own (oI es)), x2, some (.val (.int (n : Int))), x4, x5, x6, x7, x8, none, x10, x11, x12, x13, x14, x15, x16, x17, x18, x19, x20, x21, x22, x23]) (items := (List.range n).map eN) (xs := v.map eI) ?_ ?_ ?_
    · dsimp only
      exact h1 _
    · rw [compGo_nil]
      simp only [wipeE_cons, wipeE_nil, List.set]
      exact e
    · rw [List.length_map]
      exact sizeLine_big (by omega)
  unfold ab11
  rw [mSet_ap, sLst_ap, aC_ap, sN1_ap, ph1_ex, h2]
  simp [eV, k9, z1]
end
end Sd.K06

set_option Elab.async false
set_option linter.all false
set_option maxRecDepth 100000
set_option maxHeartbeats 4000000
set_option autoImplicit false
namespace Sd.K06
open PySem PySem.Spec PyProof.Rows L2 C8 Sd PySem.W
section
variable {S x1 x2 x3 x4 x5 x6 x7 x8 x9 x10 x11 x12 x13 x14 x15 x16 x17 x18 x19 x20 x21 x22 x23 : Option Sl}


theorem atI_last {α : Type} (xs : List α) (x : α) : L2.atI (xs ++ [x]) (-1) = some x := by
  have h1 : (1 : Int) ≤ (xs.length : Int) + 1 := by omega
  have h2 : (-1 + ((xs.length : Int) + 1)).toNat = xs.length := by omega
  simp [L2.atI, L2.ixN, h1, h2]
theorem nilG {α : Type} (xs : List α) : (xs.flatMap fun _ => ([] : List D)).length ≤ sizeLine := by
  have : (xs.flatMap fun _ => ([] : List D)) = [] := by
    induction xs with
    | nil => rfl
    | cons x xs ih => rw [List.flatMap_cons, ih]; rfl
  rw [this]
  exact Nat.zero_le _
def WayOk (n : Nat) (b : Int) (W : List (List Int)) : Prop := ∀ v ∈ W, v.length = n ∧ ∀ x ∈ v, -b ≤ x ∧ x ≤ b
theorem c12 {T : FnL} {n : Nat} (hT : TakeOk T) (hn : 0 < n) (ds : List Int) : ∃ (k : Nat) (d : Int) (es : List Int), k < n ∧ -7 ≤ d ∧ d ≤ 7 ∧ abb12 T [S, some (.own (oI ds)), x2, some (.val (.int (n : Int))), x4, x5, x6, x7, x8, x9, x10, x11, x12, x13, x14, x15, x16, x17, x18, x19, x20, x21, x22, x23] = .nx [S, some (.own (oI es)), x2, some (.val (.int (n : Int))), x4, x5, x6, x7, x8, some (.val (.int (k : Int))), x10, x11, x12, x13, x14, some (.val (.int d)), x16, x17, x18, x19, x20, x21, x22, x23] := by
  obtain ⟨k, e1, k0, k1, t1⟩ := hT ds n (by omega)
  obtain ⟨k, rfl⟩ := Int.eq_ofNat_of_zero_le k0
  obtain ⟨d, e2, d0, d1, t2⟩ := hT e1 15 (by omega)
  refine ⟨k, d - 7, e2, by omega, by omega, by omega, ?_⟩
  unfold abb12
  simp [t1, t2]
theorem c13 {n k : Nat} {d : Int} {b : Int} {V : List (List Int)} {v : List Int} (hk : k < n) (hn : n ≤ 1000) (hv : v.length = n ∧ ∀ x ∈ v, -b ≤ x ∧ x ≤ b) (hd : -7 ≤ d ∧ d ≤ 7) : ∃ w : List Int, (w.length = n ∧ ∀ x ∈ w, -(b + 7) ≤ x ∧ x ≤ b + 7) ∧ abb13 [S, x1, x2, x3, x4, x5, x6, x7, x8, some (.val (.int (k : Int))), x10, x11, x12, x13, some (.own (.lst ((V ++ [v]).map eV))), some (.val (.int d)), x16, x17, x18, x19, x20, x21, x22, x23] = .nx [S, x1, x2, x3, x4, x5, x6, x7, x8, some (.val (.int (k : Int))), x10, x11, x12, x13, some (.own (.lst ((V ++ [v]).map eV))), some (.val (.int d)), some (.val (eV w)), x17, x18, x19, x20, x21, x22, x23] := by
  obtain ⟨pre, x, post, rfl, rfl⟩ : ∃ pre x post, v = pre ++ x :: post ∧ pre.length = k :=
    ⟨v.take k, v[k]'(by omega), v.drop (k + 1), by rw [List.getElem_cons_drop, List.take_append_drop], by simp; omega⟩
  have hl : pIx2 (.list ((V ++ [pre ++ x :: post]).map eV)) (.int (-1)) = some (.val (eV (pre ++ x :: post))) := by
    rw [pIx2_l, List.map_append, List.map_cons, List.map_nil, atI_last]
    rfl
  have ix1 : pIx2 (eV (pre ++ x :: post)) (.int (pre.length : Int)) = some (.val (.int x)) := by
    rw [ix_eV _ (by simp)]
    simp
  have lv := hv.1
  simp at lv
  have s1 := sV_to pre (x :: post) pre.length rfl
  have s2 := sV_from1 pre post x pre.length rfl
  have a1 : pAdd (eV pre) (.tuple [.int (x + d)]) = some (.val (.tuple (pre.map eI ++ [.int (x + d)]))) := pAdd_tt _ _ (by simp; omega)
  have a2 : pAdd (.tuple (pre.map eI ++ [.int (x + d)])) (eV post) = some (.val (eV (pre ++ (x + d) :: post))) := by
    unfold eV
    rw [pAdd_tt _ _ (by simp; omega)]
    simp [eI]
  refine ⟨pre ++ (x + d) :: post, ⟨by simp; omega, ?_⟩, ?_⟩
  · intro y hy
    rcases List.mem_append.mp hy with hy | hy
    · have := hv.2 y (by simp [hy]); omega
    · rcases List.mem_cons.mp hy with rfl | hy
      · have := hv.2 x (by simp); omega
      · have := hv.2 y (by simp [hy]); omega
  · unfold abb13
    simp only [mSet_ap, sOp2_ap, sOp1_ap, sSl_ap, ph1_nm, ph2_nm, ph1_ex, ph2_ex, bd_no, bd_ex, sVar_ap, sTup_ap, aC_ap, aN_ap, sC_ap, List.getElem?_cons_zero, List.getElem?_cons_succ, Res.bind_ok, frz_val, frz_lst, Option.bind_some, pNeg_int, Res.ofO_some, hl, intD_i, s1, ix1, pAdd_int, List.length_cons, List.length_nil, Nat.zero_add, if_pos z1, a1, s2, a2, Res.out_ok, List.set]
theorem c14 {SF : Fn} {T : FnL} {bs : List Bx} {V : List (List Int)} {v w : List Int} {q : Bool} {s6 : Sl} (h6 : s6 = .own (.lst (bs.map eB)) ∨ s6 = .val (.list (bs.map eB))) (hT : TakeOk T) (hl : V.length ≤ 1000) (h : SF [.list (bs.map eB), eV v, eV w] = .ok (.val (.bool q))) (ds : List Int) : ∃ (W : List (List Int)) (es : List Int), (W = V ++ [v] ∨ W = V ++ [v] ++ [w]) ∧ abb14 SF T [S, some (.own (oI ds)), x2, x3, x4, x5, some s6, x7, x8, x9, x10, x11, x12, x13, some (.own (.lst ((V ++ [v]).map eV))), x15, some (.val (eV w)), x17, x18, x19, x20, x21, x22, x23] = .nx [S, some (.own (oI es)), x2, x3, x4, x5, some (.val (.list (bs.map eB))), x7, x8, x9, x10, x11, x12, x13, some (.own (.lst (W.map eV))), x15, some (.val (eV w)), x17, x18, x19, x20, x21, x22, x23] := by
  have hix : pIx2 (.list ((V ++ [v]).map eV)) (.int (-1)) = some (.val (eV v)) := by
    rw [pIx2_l, List.map_append, List.map_cons, List.map_nil, atI_last]
    rfl
  have hz : ((V ++ [v]).map eV).length < sizeLine := by rw [sizeLine_eq]; simp; omega
  have ap : opAppend ((V ++ [v]).map eV) [eV w] = some (.none, (V ++ [v] ++ [w]).map eV) := by
    unfold opAppend
    simp only
    rw [if_pos hz]
    simp
  obtain ⟨r, e1, r0, r1, t1⟩ := hT ds 12 (by omega)
  have rb : ∀ ρ : Ev, (sVar 6) ρ = (sVar 6) ρ := fun _ => rfl
  cases q with
  | true =>
    refine ⟨V ++ [v] ++ [w], ds, .inr rfl, ?_⟩
    unfold abb14
    rcases h6 with rfl | rfl <;> simp only [mIf_ap, bOr_ap, bTru_ap, ph1_ex, ph2_ex, sCall_ap, aC_ap, aN_ap, sVar_ap, sOp2_ap, sOp1_ap, ph1_nm, ph2_nm, sC_ap, List.getElem?_cons_zero, List.getElem?_cons_succ, Res.bind_ok, frz_val, frz_lst, obfrz_lst, List.set, Option.bind_some, pNeg_int, Res.ofO_some, hix, h, truD_bool, if_true, Res.out_ok, mDrop_ap, sLM_ap, ap]
  | false =>
    by_cases hr : r = 0
    · subst hr
      refine ⟨V ++ [v] ++ [w], e1, .inr rfl, ?_⟩
      unfold abb14
      rcases h6 with rfl | rfl <;> simp only [mIf_ap, bOr_ap, bTru_ap, bVal_ap, ph1_ex, ph2_ex, sCall_ap, sCallL_ap, aC_ap, aN_ap, sVar_ap, sOp2_ap, sOp1_ap, ph1_nm, ph2_nm, sC_ap, List.getElem?_cons_zero, List.getElem?_cons_succ, Res.bind_ok, frz_val, frz_lst, obfrz_lst, List.set, Option.bind_some, pNeg_int, Res.ofO_some, hix, h, truD_bool, Bool.false_eq_true, if_false, t1, pEq_int, beq_self_eq_true, boolD_b, if_true, Res.out_ok, mDrop_ap, sLM_ap, ap]
    · have hr' : (r == 0) = false := by simp [hr]
      refine ⟨V ++ [v], e1, .inl rfl, ?_⟩
      unfold abb14
      rcases h6 with rfl | rfl <;> simp only [mIf_ap, bOr_ap, bTru_ap, bVal_ap, ph1_ex, ph2_ex, sCall_ap, sCallL_ap, aC_ap, aN_ap, sVar_ap, sOp2_ap, sOp1_ap, ph1_nm, ph2_nm, sC_ap, List.getElem?_cons_zero, List.getElem?_cons_succ, Res.bind_ok, frz_val, frz_lst, obfrz_lst, List.set, Option.bind_some, pNeg_int, Res.ofO_some, hix, h, truD_bool, Bool.false_eq_true, if_false, t1, pEq_int, hr', boolD_b, Res.out_ok, mNext_ap]
theorem tupV (W : List (List Int)) : pTuple [.list (W.map eV)] = some (.val (eVs W)) := rfl
theorem lenV (W : List (List Int)) : pLen2 [.list (W.map eV)] = some (.val (.int W.length)) := by rw [pLen2_list, List.length_map]
theorem ixV (W : List (List Int)) {i : Nat} (h : i < W.length) : pIx2 (.list (W.map eV)) (.int (i : Int)) = some (.val (eV W[i])) := by rw [pIx2_l, ix_map eV W h]; rfl
theorem c16 {WF : Fn} {n : Nat} {bs : List Bx} {W : List (List Int)} {g : Bool} {s6 : Sl} (h6 : s6 = .own (.lst (bs.map eB)) ∨ s6 = .val (.list (bs.map eB))) (h : WF [.list (bs.map eB), .int (n : Int), eVs W] = .ok (.val (.bool g))) : ab16 WF [S, x1, x2, some (.val (.int (n : Int))), x4, x5, some s6, x7, x8, x9, x10, x11, x12, x13, some (.own (.lst (W.map eV))), x15, x16, x17, x18, x19, x20, x21, x22, x23] = .nx [S, x1, x2, some (.val (.int (n : Int))), x4, x5, some (.val (.list (bs.map eB))), x7, x8, x9, x10, x11, x12, x13, some (.own (.lst (W.map eV))), x15, x16, some (.val (.bool g)), x18, x19, x20, x21, x22, x23] := by
  unfold ab16
  rcases h6 with rfl | rfl <;> simp only [mSet_ap, sCall_ap, aC_ap, aN_ap, sVar_ap, sN1_ap, ph1_nm, ph2_nm, List.getElem?_cons_zero, List.getElem?_cons_succ, Res.bind_ok, frz_val, frz_lst, obfrz_lst, List.set, Option.bind_some, tupV, Res.ofO_some, h, Res.out_ok]
theorem dist_idx (a b : List Int) (n : Nat) (ha : a.length = n) (hb : b.length = n) : ((List.range n).map fun j => absI (b[j]! - a[j]!)).sum = distL a b := by
  unfold distL
  congr 1
  apply List.ext_getElem
  · simp; omega
  · intro j h1 h2
    simp at h1 h2
    have q1 : j < a.length := by omega
    have q2 : j < b.length := by omega
    simp [q1, q2]
    exact absI_swap _ _
theorem c17 {n : Nat} {v : List Int} {vs : List (List Int)} (hn : n ≤ 1000) (hl : vs.length ≤ 1000) (hv : ∀ x ∈ v :: vs, x.length = n) (k19 : keepV x19 = x19) : ab17 [S, x1, x2, some (.val (.int (n : Int))), x4, x5, x6, x7, x8, x9, x10, x11, x12, x13, some (.own (.lst ((v :: vs).map eV))), x15, x16, x17, none, x19, x20, x21, x22, x23] = .nx [S, x1, x2, some (.val (.int (n : Int))), x4, x5, x6, x7, x8, x9, x10, x11, x12, x13, some (.own (.lst ((v :: vs).map eV))), some (.val (.int (lenL v vs))), x16, x17, none, x19, x20, x21, x22, x23] := by
  have ho : (sListComp [19] ⟨(sRange2 (aC (sC (.int 1)) (aC (sN pLen2 [(.nm 14)]) aN))), (.nm 19), bYes⟩ [] (sN pSum [(.ex (sListComp [18] ⟨(sRange1 (aC (sVar 3) aN)), (.nm 18), bYes⟩ [] (sN pAbs [(.ex (sOp2 pSub (.ex (sOp2 pIx2 (.ex (sOp2 pIx2 (.nm 14) (.nm 19))) (.nm 18))) (.ex (sOp2 pIx2 (.ex (sOp2 pIx2 (.nm 14) (.ex (sOp2 pSub (.nm 19) (.ex (sC (.int 1))))))) (.nm 18)))))])))])) [S, x1, x2, some (.val (.int (n : Int))), x4, x5, x6, x7, x8, x9, x10, x11, x12, x13, some (.own (.lst ((v :: vs).map eV))), x15, x16, x17, none, x19, x20, x21, x22, x23] = .ok (.own (.lst (((List.range vs.length).map fun i => distL (v :: vs)[i]! (v :: vs)[i + 1]!).map .int))) [S, x1, x2, some (.val (.int (n : Int))), x4, x5, x6, x7, x8, x9, x10, x11, x12, x13, some (.own (.lst ((v :: vs).map eV))), x15, x16, x17, none, x19, x20, x21, x22, x23] := by
    rw [List.map_map]
    refine sLC_one (List.range vs.length) (fun (i : Nat) => eI (1 + (i : Int))) _ ?_ ?_ ?_ ?_
    · have r2 := range2_any 1 (((v :: vs).length : Nat) : Int) (by omega) (by omega) (by omega) (by simp; omega)
      have et : ((((v :: vs).length : Nat) : Int) - 1).toNat = vs.length := by simp
      rw [et] at r2
      simp only [sRange2_ap, aC_ap, sC_ap, Res.bind_ok, sN1_ap, ph1_nm, ph2_nm, List.getElem?_cons_zero, List.getElem?_cons_succ, frz_lst, frz_val, Option.bind_some, lenV, Res.ofO_some, aN_ap]
      rw [r2]
      rfl
    · simp [k19]
    · intro i hi
      have hi' : i < vs.length := List.mem_range.mp hi
      have q1 : i < (v :: vs).length := by simp; omega
      have q2 : i + 1 < (v :: vs).length := by simp; omega
      have g1 := ixV (v :: vs) q1
      have g2 := ixV (v :: vs) q2
      have f1 : (v :: vs)[i]! = (v :: vs)[i] := getElem!_pos (v :: vs) i q1
      have f2 : (v :: vs)[i + 1]! = (v :: vs)[i + 1] := getElem!_pos (v :: vs) (i + 1) q2
      have l1 := hv _ (List.getElem_mem q1)
      have l2 := hv _ (List.getElem_mem q2)
      have e1 : (1 : Int) + (i : Int) - 1 = (i : Int) := by omega
      have e2 : (1 : Int) + (i : Int) = ((i + 1 : Nat) : Int) := by omega
      have g2' : pIx2 (.list ((v :: vs).map eV)) (.int (1 + (i : Int))) = some (.val (eV (v :: vs)[i + 1])) := by rw [e2]; exact g2
      have hin : ∀ ρk : Ev, ρk = [S, x1, x2, some (.val (.int (n : Int))), x4, x5, x6, x7, x8, x9, x10, x11, x12, x13, some (.own (.lst ((v :: vs).map eV))), x15, x16, x17, none, some (.val (.int (1 + (i : Int)))), x20, x21, x22, x23] → (sListComp [18] ⟨(sRange1 (aC (sVar 3) aN)), (.nm 18), bYes⟩ [] (sN pAbs [(.ex (sOp2 pSub (.ex (sOp2 pIx2 (.ex (sOp2 pIx2 (.nm 14) (.nm 19))) (.nm 18))) (.ex (sOp2 pIx2 (.ex (sOp2 pIx2 (.nm 14) (.ex (sOp2 pSub (.nm 19) (.ex (sC (.int 1))))))) (.nm 18)))))])) ρk = .ok (.own (.lst (((List.range n).map fun j => absI ((v :: vs)[i + 1][j]! - (v :: vs)[i][j]!)).map .int))) ρk := by
        intro ρk ek
        rw [ek, List.map_map]
        refine sLC_one (List.range n) eN _ ?_ ?_ ?_ ?_
        · exact sRange1_s (by simp) (by omega)
        · simp
        · intro j hj
          have hj' : j < n := List.mem_range.mp hj
          have p1 : j < (v :: vs)[i].length := by omega
          have p2 : j < (v :: vs)[i + 1].length := by omega
          have h1 := ix_eV (v :: vs)[i] p1
          have h2 := ix_eV (v :: vs)[i + 1] p2
          have u1 : (v :: vs)[i][j]! = (v :: vs)[i][j] := getElem!_pos _ j p1
          have u2 : (v :: vs)[i + 1][j]! = (v :: vs)[i + 1][j] := getElem!_pos _ j p2
          simp only [turnC, eN, assignT_nm, wipeE_cons, wipeE_nil, List.set, bYes_ap, if_true, emit1_ap, sN1_ap, sOp2_ap, ph1_ex, ph2_ex, ph1_nm, ph2_nm, sC_ap, List.getElem?_cons_zero, List.getElem?_cons_succ, Res.bind_ok, frz_val, frz_lst, Option.bind_some, g2', Res.ofO_some, h2, pSub_int, e1, g1, h1, pAbs_a, slots_nm, Function.comp_apply, u1, u2]
        · rw [List.length_range]; exact sizeLine_big (by omega)
      have hs := sum_ints ((List.range n).map fun j => absI ((v :: vs)[i + 1][j]! - (v :: vs)[i][j]!))
      rw [dist_idx _ _ n l1 l2] at hs
      simp only [turnC, eI, assignT_nm, wipeE_cons, wipeE_nil, List.set, bYes_ap, Res.bind_ok, if_true, emit1_ap, sN1_ap, ph1_ex, ph2_ex, hin _ rfl, frz_lst, Option.bind_some, hs, Res.ofO_some, frz_val, slots_nm, Function.comp_apply, f1, f2]
    · rw [List.length_range]; exact sizeLine_big (by omega)
  have hs := sum_ints ((List.range vs.length).map fun i => distL (v :: vs)[i]! (v :: vs)[i + 1]!)
  have hpz := pairs_zip (v :: vs)
  rw [List.tail_cons] at hpz
  have hL : ((List.range vs.length).map fun i => distL (v :: vs)[i]! (v :: vs)[i + 1]!).sum = lenL v vs := by
    unfold lenL
    rw [hpz, List.map_map]
    rfl
  rw [hL] at hs
  unfold ab17
  rw [mSet_ap, sN1_ap, ph1_ex, ho]
  simp only [Res.bind_ok, frz_lst, ph2_ex, Option.bind_some, hs, Res.ofO_some, Res.out_ok, List.set]
theorem c18 {SY TF LF : Fn} {n : Nat} {ws : Ws} {th : List Bx} {W : List (List Int)} {g : Bool} {len : Int} (hS : SayOk SY) (h1 : TF [.int 2, eSc n ws, eT th, eVs W] = .ok (.val (.bool g))) (h2 : LF [eVs W] = .ok (.val (.int len))) : ab18 SY TF LF [S, x1, x2, x3, some (.val (eSc n ws)), some (.val (eT th)), x6, x7, x8, x9, x10, x11, x12, x13, some (.own (.lst (W.map eV))), some (.val (.int len)), x16, some (.val (.bool g)), x18, x19, x20, x21, x22, x23] = .nx [S, x1, x2, x3, some (.val (eSc n ws)), some (.val (eT th)), x6, x7, x8, x9, x10, x11, x12, x13, some (.own (.lst (W.map eV))), some (.val (.int len)), x16, some (.val (.bool g)), x18, x19, x20, x21, x22, x23] := by
  have hs := hS g g
  rw [beq_self_eq_true] at hs
  unfold ab18
  cases g <;> simp only [mIf_ap, bOr_ap, bNot_ap, bTru_ap, bAnd_ap, bVal_ap, ph1_ex, ph2_ex, sCall_ap, aC_ap, aN_ap, sVar_ap, sC_ap, sN1_ap, sOp2_ap, ph1_nm, ph2_nm, List.getElem?_cons_zero, List.getElem?_cons_succ, Res.bind_ok, frz_val, frz_lst, Option.bind_some, tupV, Res.ofO_some, h1, hs, truD_bool, Bool.not_true, Bool.false_eq_true, if_false, if_true, h2, pNe_int, beq_self_eq_true, boolD_b, Res.out_ok, mNext_ap]
theorem c19 {T : FnL} {W : List (List Int)} (hT : TakeOk T) (h : 0 < W.length) (ds : List Int) : ∃ (k : Nat) (es : List Int), k < W.length ∧ ab19 T [S, some (.own (oI ds)), x2, x3, x4, x5, x6, x7, x8, x9, x10, x11, x12, x13, some (.own (.lst (W.map eV))), x15, x16, x17, x18, x19, x20, x21, x22, x23] = .nx [S, some (.own (oI es)), x2, x3, x4, x5, x6, x7, x8, x9, x10, x11, x12, x13, some (.own (.lst (W.map eV))), x15, x16, x17, x18, some (.val (.int (k : Int))), x20, x21, x22, x23] := by
  obtain ⟨k, es, k0, k1, t1⟩ := hT ds W.length (by omega)
  obtain ⟨k, rfl⟩ := Int.eq_ofNat_of_zero_le k0
  refine ⟨k, es, by omega, ?_⟩
  unfold ab19
  simp only [mSet_ap, sCallL_ap, aC_ap, aN_ap, sN1_ap, ph1_nm, ph2_nm, List.getElem?_cons_zero, List.getElem?_cons_succ, Res.bind_ok, frz_lst, frz_val, Option.bind_some, lenV, Res.ofO_some, t1, List.set, Res.out_ok]
theorem c20 {W : List (List Int)} : ab20 [S, x1, x2, x3, x4, x5, x6, x7, x8, x9, x10, x11, x12, x13, some (.own (.lst (W.map eV))), x15, x16, x17, x18, x19, x20, x21, x22, x23] = .nx [S, x1, x2, x3, x4, x5, x6, x7, x8, x9, x10, x11, x12, x13, some (.own (.lst (W.map eV))), x15, x16, x17, x18, x19, some (.val (eVs W)), x21, x22, x23] := by
  unfold ab20
  simp only [mSet_ap, sN1_ap, ph1_nm, ph2_nm, List.getElem?_cons_zero, List.getElem?_cons_succ, Res.bind_ok, frz_lst, Option.bind_some, tupV, Res.ofO_some, Res.out_ok, List.set]
theorem c24 {SY TF WF : Fn} {n : Nat} {ws : Ws} {th bs : List Bx} {bents : List D} (hS : SayOk SY) (hl : bents.length ≤ 1000) (h : ∀ d ∈ bents, ∃ r : Bool, TF [.int 2, eSc n ws, eT th, d] = .ok (.val (.bool r)) ∧ WF [.list (bs.map eB), .int (n : Int), d] = .ok (.val (.bool r))) : ab24 SY TF WF [S, x1, x2, some (.val (.int (n : Int))), some (.val (eSc n ws)), some (.val (eT th)), some (.val (.list (bs.map eB))), x7, x8, x9, x10, x11, x12, x13, x14, x15, x16, x17, x18, x19, x20, some (.own (.lst bents)), none, x23] = .nx [S, x1, x2, some (.val (.int (n : Int))), some (.val (eSc n ws)), some (.val (eT th)), some (.val (.list (bs.map eB))), x7, x8, x9, x10, x11, x12, x13, x14, x15, x16, x17, x18, x19, x20, some (.val (.list bents)), none, x23] := by
  have hc : (sListComp [22] ⟨(sIt (sVar 21)), (.nm 22), (bNot (bTru (.ex (sCall SY (aC (sCall TF (aC (sC (.int 2)) (aC (sVar 4) (aC (sVar 5) (aC (sVar 22) aN))))) (aC (sCall WF (aC (sVar 6) (aC (sVar 3) (aC (sVar 22) aN)))) aN))))))⟩ [] (sVar 22)) [S, x1, x2, some (.val (.int (n : Int))), some (.val (eSc n ws)), some (.val (eT th)), some (.val (.list (bs.map eB))), x7, x8, x9, x10, x11, x12, x13, x14, x15, x16, x17, x18, x19, x20, some (.own (.lst bents)), none, x23] = .ok (.own (.lst [])) [S, x1, x2, some (.val (.int (n : Int))), some (.val (eSc n ws)), some (.val (eT th)), some (.val (.list (bs.map eB))), x7, x8, x9, x10, x11, x12, x13, x14, x15, x16, x17, x18, x19, x20, some (.val (.list bents)), none, x23] := by
    rw [sLC_go [S, x1, x2, some (.val (.int (n : Int))), some (.val (eSc n ws)), some (.val (eT th)), some (.val (.list (bs.map eB))), x7, x8, x9, x10, x11, x12, x13, x14, x15, x16, x17, x18, x19, x20, some (.val (.list bents)), none, x23] bents id (fun _ => [])]
    · simp
    · simp
    · simp
    · intro d hd
      obtain ⟨r, h1, h2⟩ := h d hd
      have hs := hS r r
      rw [beq_self_eq_true] at hs
      simp [turnC, h1, h2, hs]
    · exact nilG _
  unfold ab24
  rw [mIf_ap, bVal_ap, sNeNil hc (by simp [okEq, PyData.depth, PyData.depthAll])]
  simp
end
end Sd.K06

set_option Elab.async false
set_option linter.all false
set_option maxRecDepth 100000
set_option maxHeartbeats 4000000
set_option autoImplicit false
namespace Sd.K06
open PySem PySem.Spec PyProof.Rows L2 C8 Sd PySem.W
section
variable {S x1 x2 x3 x4 x5 x6 x7 x8 x9 x10 x11 x12 x13 x14 x15 x16 x17 x18 x19 x20 x21 x22 x23 : Option Sl}


theorem depthAll_le {m : Nat} : ∀ {xs : List D}, (∀ x ∈ xs, x.depth ≤ m) → PyData.depthAll xs ≤ m
  | [], _ => by simp [PyData.depthAll]
  | x :: xs, h => by
    have h1 := h x (by simp)
    have h2 := depthAll_le (xs := xs) fun y hy => h y (by simp [hy])
    simp [PyData.depthAll]
    omega
def Small (m : Nat) (d : D) : Prop := d.plain = true ∧ d.depth ≤ m
theorem small_tup {m : Nat} {xs : List D} (h : ∀ x ∈ xs, Small m x) : Small (m + 1) (.tuple xs) := by
  refine ⟨by rw [plain_tuple]; exact plainAll_iff.mpr fun d hd => (h d hd).1, ?_⟩
  rw [depth_tup]
  have := depthAll_le (m := m) (xs := xs) fun x hx => (h x hx).2
  omega
theorem small_lst {m : Nat} {xs : List D} (h : ∀ x ∈ xs, Small m x) : Small (m + 1) (.list xs) := by
  refine ⟨by rw [plain_list]; exact plainAll_iff.mpr fun d hd => (h d hd).1, ?_⟩
  have e : (PyData.list xs).depth = PyData.depthAll xs + 1 := by simp [PyData.depth]
  rw [e]
  have := depthAll_le (m := m) (xs := xs) fun x hx => (h x hx).2
  omega
theorem Small.le {m k : Nat} {d : D} (h : Small m d) (hk : m ≤ k) : Small k d := ⟨h.1, by have := h.2; omega⟩
theorem small_int (i : Int) : Small 5 (.int i) := ⟨by simp, by simp [PyData.depth]⟩
theorem small_none : Small 5 .none := ⟨by simp, by simp [PyData.depth]⟩
theorem small_bool (b : Bool) : Small 5 (.bool b) := ⟨by simp, by simp [PyData.depth]⟩
theorem small_ints (v : List Int) : ∀ x ∈ v.map eI, Small 5 x := by
  intro x hx
  obtain ⟨i, _, rfl⟩ := List.mem_map.mp hx
  exact small_int i
theorem small_eV (v : List Int) : Small 6 (eV v) := small_tup (small_ints v)
theorem small_Vs (vs : List (List Int)) : ∀ x ∈ vs.map eV, Small 6 x := by
  intro x hx
  obtain ⟨i, _, rfl⟩ := List.mem_map.mp hx
  exact small_eV i
def Bent (d : D) : Prop := Small 20 d ∧ ∀ ds, d = .tuple ds → ds.length ≤ 1000
theorem bent_tup {xs : List D} (h : ∀ x ∈ xs, Small 10 x) (hl : xs.length ≤ 1000) : Bent (.tuple xs) :=
  ⟨(small_tup h).le (by omega), fun ds e => by cases e; exact hl⟩
theorem bent_lst {xs : List D} (h : ∀ x ∈ xs, Small 10 x) : Bent (.list xs) := ⟨(small_lst h).le (by omega), fun ds e => by cases e⟩
theorem bent_none : Bent .none := ⟨small_none.le (by omega), fun ds e => by cases e⟩
theorem bent_at {P Q : List (List Int)} {x : D} (hx : Small 10 x) (hl : P.length + 1 + Q.length ≤ 1000) : Bent (.tuple ((P.map eV ++ [x]) ++ Q.map eV)) := by
  refine bent_tup (fun y hy => ?_) (by simp; omega)
  rcases List.mem_append.mp hy with hy | hy
  · rcases List.mem_append.mp hy with hy | hy
    · exact (small_Vs P y hy).le (by omega)
    · rw [List.mem_singleton] at hy
      rw [hy]; exact hx
  · exact (small_Vs Q y hy).le (by omega)
theorem cut_mem {xs : List D} {lo hi : Option Int} : (∀ x ∈ cutD xs lo hi, x ∈ xs) ∧ (cutD xs lo hi).length ≤ xs.length := by
  unfold cutD
  refine ⟨fun x hx => List.mem_of_mem_drop (List.mem_of_mem_take hx), ?_⟩
  rw [List.length_take, List.length_drop]
  omega
theorem sVs_to (P Q : List (List Int)) (k : Nat) (h : k = P.length) : pSl none (some (k : Int)) (eVs (P ++ Q)) = some (.val (.tuple (P.map eV))) := by
  show some (Sl.val (.tuple (cutD ((P ++ Q).map eV) none (some (k : Int))))) = _
  rw [List.map_append, cutD_to _ _ k (by simp [h])]
theorem sVs_from1 (P Q : List (List Int)) (r : List Int) (k : Nat) (h : k = P.length) : pSl (some ((k : Int) + 1)) none (eVs (P ++ r :: Q)) = some (.val (.tuple (Q.map eV))) := by
  show some (Sl.val (.tuple (cutD ((P ++ r :: Q).map eV) (some ((k : Int) + 1)) none))) = _
  rw [show ((k : Int) + 1) = ((k + 1 : Nat) : Int) by omega, show P ++ r :: Q = (P ++ [r]) ++ Q by simp, List.map_append, cutD_from _ _ (k + 1) (by simp [h])]
theorem splitAt {W : List (List Int)} {k : Nat} (hk : k < W.length) : ∃ P r Q, W = P ++ r :: Q ∧ k = P.length ∧ r = W[k] :=
  ⟨W.take k, W[k], W.drop (k + 1), by rw [List.getElem_cons_drop, List.take_append_drop], by simp; omega, rfl⟩
theorem zb (n : Nat) (h : n ≤ 100) : n ≤ sizeLine := sizeLine_big (by omega)
theorem c21 {W : List (List Int)} {k : Nat} (hk : k < W.length) (hl : W.length ≤ 20) : ∃ bents : List D, bents.length = 8 ∧ (∀ d ∈ bents, Bent d) ∧ ab21 [S, x1, x2, x3, x4, x5, x6, x7, x8, x9, x10, x11, x12, x13, x14, x15, x16, x17, x18, some (.val (.int (k : Int))), some (.val (eVs W)), x21, x22, x23] = .nx [S, x1, x2, x3, x4, x5, x6, x7, x8, x9, x10, x11, x12, x13, x14, x15, x16, x17, x18, some (.val (.int (k : Int))), some (.val (eVs W)), some (.own (.lst bents)), x22, x23] := by
  obtain ⟨P, r, Q, hW, hP, hr⟩ := splitAt hk
  have lp : P.length + 1 + Q.length = W.length := by rw [hW]; simp; omega
  have s1 := sVs_to P (r :: Q) k hP
  have s2 := sVs_from1 P Q r k hP
  have s4 := ix_eVs W hk
  rw [← hr] at s4
  rw [← hW] at s1 s2
  have s3 : pSl (some (-1)) none (eVs W) = some (.val (.tuple (cutD (W.map eV) (some (-1)) none))) := rfl
  have rv : pRev (eVs W) = some (.val (.tuple (W.map eV).reverse)) := rfl
  have lc : pListC2 [eVs W] = some (.own (.lst (W.map eV))) := rfl
  have lr : pListC2 [eV r] = some (.own (.lst (r.map eI))) := rfl
  have cm := cut_mem (xs := W.map eV) (lo := some (-1)) (hi := none)
  have cl := cm.2
  rw [List.length_map] at cl
  have d1 : pAdd (.tuple (P.map eV)) (.tuple (Q.map eV)) = some (.val (.tuple (P.map eV ++ Q.map eV))) := pAdd_tt _ _ (by simp; omega)
  have d2 : pAdd (eVs W) (.tuple (cutD (W.map eV) (some (-1)) none)) = some (.val (.tuple (W.map eV ++ cutD (W.map eV) (some (-1)) none))) := pAdd_tt _ _ (by rw [List.length_map]; omega)
  have d3 : ∀ x : D, pAdd (.tuple (P.map eV)) (.tuple [x]) = some (.val (.tuple (P.map eV ++ [x]))) := fun x => pAdd_tt _ _ (by simp; omega)
  have d4 : ∀ x : D, pAdd (.tuple (P.map eV ++ [x])) (.tuple (Q.map eV)) = some (.val (.tuple ((P.map eV ++ [x]) ++ Q.map eV))) := fun x => pAdd_tt _ _ (by simp; omega)
  have e0 : (0 : Nat) ≤ sizeLine := Nat.zero_le _
  have e8 := zb 8 (by decide)
  refine ⟨[.tuple (P.map eV ++ Q.map eV), .tuple (W.map eV ++ cutD (W.map eV) (some (-1)) none), .tuple (W.map eV).reverse, .list (W.map eV), .none, .tuple [], .tuple ((P.map eV ++ [.none]) ++ Q.map eV), .tuple ((P.map eV ++ [.list (r.map eI)]) ++ Q.map eV)], rfl, ?_, ?_⟩
  · intro d hd
    simp only [List.mem_cons, List.not_mem_nil, or_false] at hd
    rcases hd with rfl | rfl | rfl | rfl | rfl | rfl | rfl | rfl
    · refine bent_tup (fun y hy => ?_) (by simp; omega)
      rcases List.mem_append.mp hy with hy | hy
      · exact (small_Vs P y hy).le (by omega)
      · exact (small_Vs Q y hy).le (by omega)
    · refine bent_tup (fun y hy => ?_) (by rw [List.length_append, List.length_map]; omega)
      rcases List.mem_append.mp hy with hy | hy
      · exact (small_Vs W y hy).le (by omega)
      · exact (small_Vs W y (cm.1 y hy)).le (by omega)
    · exact bent_tup (fun y hy => (small_Vs W y (List.mem_reverse.mp hy)).le (by omega)) (by simp; omega)
    · exact bent_lst fun y hy => (small_Vs W y hy).le (by omega)
    · exact bent_none
    · exact bent_tup (by simp) (by simp)
    · exact bent_at (small_none.le (by omega)) (by omega)
    · exact bent_at ((small_lst (small_ints r)).le (by omega)) (by omega)
  · unfold ab21
    simp only [mSet_ap, sLst_ap, aC_ap, sC_ap, Res.bind_ok, sTup_ap, aN_ap, List.length_nil, if_pos e0, sN1_ap, ph1_nm, ph2_nm, List.getElem?_cons_zero, List.getElem?_cons_succ, frz_val, Option.bind_some, Res.ofO_some, sOp2_ap, sOp1_ap, ph1_ex, ph2_ex, sSl_ap, bd_no, bd_ex, sVar_ap, intD_i, pNeg_int, pAdd_int, List.length_cons, Nat.zero_add, Nat.reduceAdd, if_pos z1, if_pos z2, frz_lst, Res.out_ok, List.set, s1, s2, s4, s3, rv, lc, lr, d1, d2, d3, d4, if_pos e8]
theorem rep1 (x : D) (n : Nat) (h : n ≤ 1000) : pRep (.tuple [x]) (.int (n : Int)) = some (.val (.tuple (List.replicate n x))) := by
  unfold pRep
  simp only
  rw [if_pos ⟨by omega, by simp⟩]
  simp
theorem repV (i : Int) (n : Nat) (h : n ≤ 1000) : pRep (.tuple [.int i]) (.int (n : Int)) = some (.val (eV (List.replicate n i))) := by
  rw [rep1 _ _ h]
  simp [eV, eI]
theorem c22 {n : Nat} {W : List (List Int)} {k : Nat} {bents : List D} (hn : n ≤ 1000) (hk : k < W.length) (hl : W.length ≤ 20) (hb : ∀ d ∈ bents, Bent d) (hbl : bents.length ≤ 100) (hr3 : ∀ v ∈ W, v.length ≤ 1000) : ∃ bents2 : List D, bents2.length = bents.length + 2 ∧ (∀ d ∈ bents2, Bent d) ∧ ab22 [S, x1, x2, some (.val (.int (n : Int))), x4, x5, x6, x7, x8, x9, x10, x11, x12, x13, x14, x15, x16, x17, x18, some (.val (.int (k : Int))), some (.val (eVs W)), some (.own (.lst bents)), x22, x23] = .nx [S, x1, x2, some (.val (.int (n : Int))), x4, x5, x6, x7, x8, x9, x10, x11, x12, x13, x14, x15, x16, x17, x18, some (.val (.int (k : Int))), some (.val (eVs W)), some (.own (.lst bents2)), x22, x23] := by
  obtain ⟨P, r, Q, hW, hP, hr⟩ := splitAt hk
  have lp : P.length + 1 + Q.length = W.length := by rw [hW]; simp; omega
  have rl : r.length ≤ 1000 := hr3 r (by rw [hW]; simp)
  have s1 := sVs_to P (r :: Q) k hP
  have s2 := sVs_from1 P Q r k hP
  have s4 := ix_eVs W hk
  rw [← hr] at s4
  rw [← hW] at s1 s2
  have d0 : pAdd (eV r) (.tuple [.int 0]) = some (.val (.tuple (r.map eI ++ [.int 0]))) := pAdd_tt _ _ (by simp; omega)
  have rp := repV 0 n hn
  have d3 : ∀ x : D, pAdd (.tuple (P.map eV)) (.tuple [x]) = some (.val (.tuple (P.map eV ++ [x]))) := fun x => pAdd_tt _ _ (by simp; omega)
  have d4 : ∀ x : D, pAdd (.tuple (P.map eV ++ [x])) (.tuple (Q.map eV)) = some (.val (.tuple ((P.map eV ++ [x]) ++ Q.map eV))) := fun x => pAdd_tt _ _ (by simp; omega)
  have d5 : ∀ x y : D, pAdd (.list bents) (.list [x, y]) = some (.own (.lst (bents ++ [x, y]))) := fun x y => pAdd_ll _ _ (by simp; omega)
  have e0 : (0 : Nat) ≤ sizeLine := Nat.zero_le _
  refine ⟨bents ++ [.tuple ((P.map eV ++ [.tuple (r.map eI ++ [.int 0])]) ++ Q.map eV), .tuple ((P.map eV ++ [eV (List.replicate n 0)]) ++ Q.map eV)], by simp, ?_, ?_⟩
  · intro d hd
    rcases List.mem_append.mp hd with hd | hd
    · exact hb d hd
    · simp only [List.mem_cons, List.not_mem_nil, or_false] at hd
      rcases hd with rfl | rfl
      · refine bent_at (Small.le (m := 6) (small_tup fun y hy => ?_) (by omega)) (by omega)
        rcases List.mem_append.mp hy with hy | hy
        · exact small_ints r y hy
        · rw [List.mem_singleton] at hy
          rw [hy]; exact small_int 0
      · exact bent_at ((small_eV _).le (by omega)) (by omega)
  · unfold ab22
    simp only [mSet_ap, sLst_ap, aC_ap, sC_ap, Res.bind_ok, sTup_ap, aN_ap, List.length_nil, if_pos e0, sN1_ap, ph1_nm, ph2_nm, List.getElem?_cons_zero, List.getElem?_cons_succ, frz_val, Option.bind_some, Res.ofO_some, sOp2_ap, sOp1_ap, ph1_ex, ph2_ex, sSl_ap, bd_no, bd_ex, sVar_ap, intD_i, pNeg_int, pAdd_int, List.length_cons, Nat.zero_add, Nat.reduceAdd, if_pos z1, if_pos z2, frz_lst, Res.out_ok, List.set, s1, s2, s4, d0, rp, d3, d4, d5]
theorem c23 {W : List (List Int)} {k : Nat} {bents : List D} (hk : k < W.length) (hl : W.length ≤ 20) (hb : ∀ d ∈ bents, Bent d) (hbl : bents.length ≤ 100) (hr3 : ∀ v ∈ W, v.length ≤ 1000) : ∃ bents2 : List D, bents2.length = bents.length + 2 ∧ (∀ d ∈ bents2, Bent d) ∧ ab23 [S, x1, x2, x3, x4, x5, x6, x7, x8, x9, x10, x11, x12, x13, x14, x15, x16, x17, x18, some (.val (.int (k : Int))), some (.val (eVs W)), some (.own (.lst bents)), x22, x23] = .nx [S, x1, x2, x3, x4, x5, x6, x7, x8, x9, x10, x11, x12, x13, x14, x15, x16, x17, x18, some (.val (.int (k : Int))), some (.val (eVs W)), some (.own (.lst bents2)), x22, x23] := by
  obtain ⟨P, r, Q, hW, hP, hr⟩ := splitAt hk
  have lp : P.length + 1 + Q.length = W.length := by rw [hW]; simp; omega
  have rl : r.length ≤ 1000 := hr3 r (by rw [hW]; simp)
  have s1 := sVs_to P (r :: Q) k hP
  have s2 := sVs_from1 P Q r k hP
  have s4 := ix_eVs W hk
  rw [← hr] at s4
  rw [← hW] at s1 s2
  have cm := cut_mem (xs := r.map eI) (lo := none) (hi := some (-1))
  have cl := cm.2
  rw [List.length_map] at cl
  have s5 : pSl none (some (-1)) (eV r) = some (.val (.tuple (cutD (r.map eI) none (some (-1))))) := rfl
  have d0 : ∀ x : D, pAdd (.tuple (cutD (r.map eI) none (some (-1)))) (.tuple [x]) = some (.val (.tuple (cutD (r.map eI) none (some (-1)) ++ [x]))) := fun x => pAdd_tt _ _ (by simp; omega)
  have d3 : ∀ x : D, pAdd (.tuple (P.map eV)) (.tuple [x]) = some (.val (.tuple (P.map eV ++ [x]))) := fun x => pAdd_tt _ _ (by simp; omega)
  have d4 : ∀ x : D, pAdd (.tuple (P.map eV ++ [x])) (.tuple (Q.map eV)) = some (.val (.tuple ((P.map eV ++ [x]) ++ Q.map eV))) := fun x => pAdd_tt _ _ (by simp; omega)
  have d5 : ∀ x y : D, pAdd (.list bents) (.list [x, y]) = some (.own (.lst (bents ++ [x, y]))) := fun x y => pAdd_ll _ _ (by simp; omega)
  have e0 : (0 : Nat) ≤ sizeLine := Nat.zero_le _
  have key : ∀ x : D, Small 5 x → Bent (.tuple ((P.map eV ++ [.tuple (cutD (r.map eI) none (some (-1)) ++ [x])]) ++ Q.map eV)) := by
    intro x hx
    refine bent_at (Small.le (m := 6) (small_tup fun y hy => ?_) (by omega)) (by omega)
    rcases List.mem_append.mp hy with hy | hy
    · exact small_ints r y (cm.1 y hy)
    · rw [List.mem_singleton] at hy
      rw [hy]; exact hx
  refine ⟨bents ++ [.tuple ((P.map eV ++ [.tuple (cutD (r.map eI) none (some (-1)) ++ [.int 4001])]) ++ Q.map eV), .tuple ((P.map eV ++ [.tuple (cutD (r.map eI) none (some (-1)) ++ [.bool true])]) ++ Q.map eV)], by simp, ?_, ?_⟩
  · intro d hd
    rcases List.mem_append.mp hd with hd | hd
    · exact hb d hd
    · simp only [List.mem_cons, List.not_mem_nil, or_false] at hd
      rcases hd with rfl | rfl
      · exact key _ (small_int _)
      · exact key _ (small_bool _)
  · unfold ab23
    simp only [mSet_ap, sLst_ap, aC_ap, sC_ap, Res.bind_ok, sTup_ap, aN_ap, List.length_nil, if_pos e0, sN1_ap, ph1_nm, ph2_nm, List.getElem?_cons_zero, List.getElem?_cons_succ, frz_val, Option.bind_some, Res.ofO_some, sOp2_ap, sOp1_ap, ph1_ex, ph2_ex, sSl_ap, bd_no, bd_ex, sVar_ap, intD_i, pNeg_int, pAdd_int, List.length_cons, Nat.zero_add, Nat.reduceAdd, if_pos z1, if_pos z2, frz_lst, Res.out_ok, List.set, s1, s2, s4, s5, d0, d3, d4, d5]
end
end Sd.K06

set_option Elab.async false
set_option linter.all false
set_option maxRecDepth 100000
set_option maxHeartbeats 4000000
set_option autoImplicit false
namespace Sd.K06
open PySem PySem.Spec PyProof.Rows L2 C8 Sd PySem.W
section
variable {S x1 x2 x3 x4 x5 x6 x7 x8 x9 x10 x11 x12 x13 x14 x15 x16 x17 x18 x19 x20 x21 x22 x23 : Option Sl}


def ThS (n : Nat) (th : List Bx) : Prop := 0 < th.length ∧ th.length ≤ 3 ∧ (∀ b ∈ th, b.length = n ∧ ∀ p ∈ b, nearF 2 2 p) ∧ (th.Pairwise fun a b => ltB a b = true)
theorem ThS.ok {n : Nat} {th : List Bx} (h : ThS n th) : ThOk n th :=
  ⟨h.1, by have := h.2.1; omega, fun b hb => ⟨(h.2.2.1 b hb).1, fun p hp => nearF_in (by decide) (by decide) ((h.2.2.1 b hb).2 p hp)⟩, h.2.2.2⟩
def Odd (n : Nat) (d : D) : Prop := NoThing d ∨ ∃ (m : Nat) (th : List Bx), m ≠ n ∧ (m = 2 ∨ m = 3) ∧ d = eT th ∧ ThOk m th
theorem stretchB_eP0 (x : Int) : stretchB (.int x) = false := rfl
theorem nt_box {b : Bx} (h : b.length = 2 ∨ b.length = 3) : NoThing (eB b) := by
  have p := plain_eB b
  refine ⟨p, ?_⟩
  have p2 : PyData.plainAll (b.map eP) = true := by
    have := p
    unfold eB at this
    rw [plain_tuple] at this
    exact this
  refine is_thing_bad (b.map eP) p2 (by simp; omega) (by simp; omega) ?_
  match b, h with
  | x :: bs, _ =>
    have e : boxB (eP x) = false := by simp [eP, boxB, stretchB_eP0]
    simp [e]
theorem c25 {TF : FnL} {n : Nat} {th : List Bx} (hn : n = 2 ∨ n = 3) (h : ThS n th) (hT : ∀ m, m = 2 ∨ m = 3 → ThingOk TF m 2) (ds : List Int) : ∃ (odd : List D) (es : List Int), odd.length = 6 ∧ (∀ d ∈ odd, Odd n d) ∧ ab25 TF [S, some (.own (oI ds)), x2, some (.val (.int (n : Int))), x4, some (.val (eT th)), x6, x7, x8, x9, x10, x11, x12, x13, x14, x15, x16, x17, x18, x19, x20, x21, x22, x23] = .nx [S, some (.own (oI es)), x2, some (.val (.int (n : Int))), x4, some (.val (eT th)), x6, x7, x8, x9, x10, x11, x12, x13, x14, x15, x16, x17, x18, x19, x20, x21, x22, some (.own (.lst odd))] := by
  have hk := h.ok
  obtain ⟨q1, q2, q3, q4⟩ := h
  obtain ⟨m, hm, hmn, em⟩ : ∃ m : Nat, (m = 2 ∨ m = 3) ∧ m ≠ n ∧ (5 : Int) - (n : Int) = (m : Int) := by
    rcases hn with rfl | rfl
    · exact ⟨3, .inr rfl, by decide, rfl⟩
    · exact ⟨2, .inl rfl, by decide, rfl⟩
  obtain ⟨th2, es, t1, t2, t3, t4, te⟩ := hT m hm ds
  rw [show ((2 : Nat) : Int) = 2 from rfl] at te
  have tO : ThOk m th2 := (show ThS m th2 from ⟨t1, by omega, t3, t4⟩).ok
  obtain ⟨ini, l, hl⟩ : ∃ ini l, th = ini ++ [l] := by
    rcases List.eq_nil_or_concat th with h | ⟨i, l, h⟩
    · rw [h] at q1; cases q1
    · exact ⟨i, l, by rw [h, List.concat_eq_append]⟩
  have s3 := sT_last ini l
  rw [← hl] at s3
  have i0 : pIx2 (eT th) (.int 0) = some (.val (eB th[0])) := ix_eT th q1
  have lc : pListC2 [eT th] = some (.own (.lst (th.map eB))) := rfl
  have d5 := eT_app th [l] (by simp; omega)
  have e0 : (0 : Nat) ≤ sizeLine := Nat.zero_le _
  have hb : ∀ b ∈ th, boxB (eB b) = true := fun b hb => box_in (by rw [(q3 b hb).1]; exact hn) (hk.2.2.1 b hb).2
  refine ⟨[.none, .tuple [], eB th[0], .list (th.map eB), eT th2, eT (th ++ [l])], es, rfl, ?_, ?_⟩
  · intro d hd
    simp only [List.mem_cons, List.not_mem_nil, or_false] at hd
    rcases hd with rfl | rfl | rfl | rfl | rfl | rfl
    · exact .inl nt_none
    · exact .inl nt_empty
    · exact .inl (nt_box (by rw [(q3 _ (List.getElem_mem q1)).1]; exact hn))
    · exact .inl (nt_list th)
    · exact .inr ⟨m, th2, hmn, hm, rfl, tO⟩
    · refine .inl (nt_adj (th ++ [l]) ini [] l l (by rw [hl]; simp) (ltB_irr l) (by simp; omega) fun b hb' => ?_)
      have hb' : b ∈ th := by
        rcases List.mem_append.mp hb' with hb | hb
        · exact hb
        · rw [hl]; simp at hb ⊢; exact .inr hb
      exact hb b hb'
  · unfold ab25
    simp only [mSet_ap, sLst_ap, aC_ap, sC_ap, Res.bind_ok, sTup_ap, aN_ap, List.length_nil, if_pos e0, sN1_ap, ph1_nm, ph2_nm, List.getElem?_cons_zero, List.getElem?_cons_succ, frz_val, Option.bind_some, Res.ofO_some, sOp2_ap, sOp1_ap, ph1_ex, ph2_ex, sSl_ap, bd_no, bd_ex, sVar_ap, intD_i, pNeg_int, pAdd_int, pSub_int, List.length_cons, Nat.zero_add, Nat.reduceAdd, if_pos z1, if_pos z2, if_pos z3, if_pos z6, frz_lst, Res.out_ok, List.set, sCallL_ap, sCall_ap, lc, i0, em, te, s3, d5]
theorem formEq : pNe (.list [.str "form", .str "form", .str "form"]) (.list [.str "form", .str "form", .str "form"]) = some (.val (.bool false)) := by
  unfold pNe
  simp [okEq, PyData.depth, PyData.depthAll, PyData.eqv, PyData.eqvAll, vB]
theorem formEq1 : pNe (.str "form") (.str "form") = some (.val (.bool false)) := by
  unfold pNe
  simp [okEq, PyData.depth, PyData.eqv, vB]
theorem repL (x : D) (n : Nat) (h : n ≤ 1000) : pRep (.list [x]) (.int (n : Int)) = some (.own (.lst (List.replicate n x))) := by
  have e63 : (2 : Int) ^ 63 = 9223372036854775808 := by decide
  unfold pRep
  simp only
  rw [if_pos ⟨by rw [e63]; omega, by rw [e63]; omega, by
    simp
    exact sizeLine_big (by omega)⟩]
  simp
theorem repForm : pRep (.list [.str "form"]) (.int 3) = some (.own (.lst [.str "form", .str "form", .str "form"])) := repL _ 3 (by decide)
theorem c26 {TF : Fn} {n : Nat} {ws : Ws} {odd : List D} (hn : n ≤ 1000) (hl : odd.length ≤ 10) (h : ∀ d ∈ odd, TF [.int 0, eSc n ws, d, .none] = .ok (.val (.str "form")) ∧ TF [.int 1, eSc n ws, d, eV (List.replicate n 0)] = .ok (.val (.str "form")) ∧ TF [.int 2, eSc n ws, d, .tuple [eV (List.replicate n 0)]] = .ok (.val (.str "form"))) : ab26 TF [S, x1, x2, some (.val (.int (n : Int))), some (.val (eSc n ws)), x5, x6, x7, x8, x9, x10, x11, x12, x13, x14, x15, x16, x17, x18, x19, x20, x21, none, some (.own (.lst odd))] = .nx [S, x1, x2, some (.val (.int (n : Int))), some (.val (eSc n ws)), x5, x6, x7, x8, x9, x10, x11, x12, x13, x14, x15, x16, x17, x18, x19, x20, x21, none, some (.val (.list odd))] := by
  have e0 : (0 : Nat) ≤ sizeLine := Nat.zero_le _
  have rp := repV 0 n hn
  have rf := repForm
  have fe := formEq
  have hc : (sListComp [22] ⟨(sIt (sVar 23)), (.nm 22), (bVal (sOp2 pNe (.ex (sLst (aC (sCall TF (aC (sC (.int 0)) (aC (sVar 4) (aC (sVar 22) (aC (sC .none) aN))))) (aC (sCall TF (aC (sC (.int 1)) (aC (sVar 4) (aC (sVar 22) (aC (sOp2 pRep (.ex (sTup (aC (sC (.int 0)) aN))) (.nm 3)) aN))))) (aC (sCall TF (aC (sC (.int 2)) (aC (sVar 4) (aC (sVar 22) (aC (sTup (aC (sOp2 pRep (.ex (sTup (aC (sC (.int 0)) aN))) (.nm 3)) aN)) aN))))) aN))))) (.ex (sOp2 pRep (.ex (sLst (aC (sC (.str "form")) aN))) (.ex (sC (.int 3)))))))⟩ [] (sVar 22)) [S, x1, x2, some (.val (.int (n : Int))), some (.val (eSc n ws)), x5, x6, x7, x8, x9, x10, x11, x12, x13, x14, x15, x16, x17, x18, x19, x20, x21, none, some (.own (.lst odd))] = .ok (.own (.lst [])) [S, x1, x2, some (.val (.int (n : Int))), some (.val (eSc n ws)), x5, x6, x7, x8, x9, x10, x11, x12, x13, x14, x15, x16, x17, x18, x19, x20, x21, none, some (.val (.list odd))] := by
    rw [sLC_go [S, x1, x2, some (.val (.int (n : Int))), some (.val (eSc n ws)), x5, x6, x7, x8, x9, x10, x11, x12, x13, x14, x15, x16, x17, x18, x19, x20, x21, none, some (.val (.list odd))] odd id (fun _ => [])]
    · simp
    · simp
    · simp
    · intro d hd
      obtain ⟨h0, h1, h2⟩ := h d hd
      simp only [turnC, assignT_nm, wipeE_cons, wipeE_nil, bVal_ap, mSet_ap, sLst_ap, aC_ap, sC_ap, Res.bind_ok, sTup_ap, aN_ap, List.length_nil, if_pos e0, sN1_ap, ph1_nm, ph2_nm, List.getElem?_cons_zero, List.getElem?_cons_succ, frz_val, Option.bind_some, Res.ofO_some, sOp2_ap, sOp1_ap, ph1_ex, ph2_ex, sSl_ap, bd_no, bd_ex, sVar_ap, intD_i, pNeg_int, pAdd_int, pSub_int, List.length_cons, Nat.zero_add, Nat.reduceAdd, if_pos z1, if_pos z2, if_pos z3, if_pos z6, frz_lst, Res.out_ok, List.set, sCallL_ap, sCall_ap, h0, h1, h2, rp, rf, fe, boolD_b, Bool.false_eq_true, if_false, id, slots_nm]
    · exact nilG _
  unfold ab26
  rw [mIf_ap, bVal_ap, sNeNil hc (by simp [okEq, PyData.depth, PyData.depthAll])]
  simp
theorem nilE {α : Type} (xs : List α) : (xs.flatMap fun _ => ([] : List D)) = [] := by
  induction xs with
  | nil => rfl
  | cons x xs ih => rw [List.flatMap_cons, ih]; rfl
theorem obfrz_own (xs : List D) : (Sl.own (.lst xs)).frz = .list xs := rfl
def badP (n : Nat) : List D := [.none, .tuple [], eV (List.replicate (n + 1) 0), .list (List.replicate n (.int 0)), eV (List.replicate n 4001), .tuple (List.replicate n .none)]
theorem badP_bad (n : Nat) (h : 0 < n) : ∀ d ∈ badP n, d.plain = true ∧ placeB n d = false := by
  intro d hd
  obtain ⟨m, rfl⟩ : ∃ m, n = m + 1 := ⟨n - 1, by omega⟩
  unfold badP at hd
  simp only [List.mem_cons, List.not_mem_nil, or_false] at hd
  have pr : ∀ (x : D) (k : Nat), x.plain = true → PyData.plainAll (List.replicate k x) = true := fun x k hx => plainAll_iff.mpr fun d hd => by rw [(List.mem_replicate.mp hd).2]; exact hx
  rcases hd with rfl | rfl | rfl | rfl | rfl | rfl
  · exact ⟨by simp, rfl⟩
  · exact ⟨by simp, by simp [placeB]⟩
  · exact ⟨plain_eV _, by simp [placeB, eV]⟩
  · exact ⟨by rw [plain_list]; exact pr _ _ (by simp), rfl⟩
  · exact ⟨plain_eV _, by simp [placeB, eV, eI, numB]⟩
  · exact ⟨by rw [plain_tuple]; exact pr _ _ (by simp), by simp [placeB, numB]⟩
theorem hr27 {n : Nat} {ws : Ws} {th : List Bx} (k8 : keepV x8 = x8) : restoreE [S, x1, x2, some (.val (.int (n : Int))), some (.val (eSc n ws)), some (.val (eT th)), x6, x7, x8, x9, x10, x11, x12, x13, x14, x15, x16, x17, x18, x19, x20, x21, x22, x23] (wipeE [S, x1, x2, some (.val (.int (n : Int))), some (.val (eSc n ws)), some (.val (eT th)), x6, x7, x8, x9, x10, x11, x12, x13, x14, x15, x16, x17, x18, x19, x20, x21, x22, x23] [8]) [8] = [S, x1, x2, some (.val (.int (n : Int))), some (.val (eSc n ws)), some (.val (eT th)), x6, x7, x8, x9, x10, x11, x12, x13, x14, x15, x16, x17, x18, x19, x20, x21, x22, x23] := by simp [k8]
theorem aC_ok {f : M Sl} {as : M (List D)} {ρ ρ1 ρ2 : Ev} {r : Sl} {ds : List D} (h1 : f ρ = .ok r ρ1) (h2 : as ρ1 = .ok ds ρ2) : aC f as ρ = .ok (r.frz :: ds) ρ2 := by
  rw [aC_ap, h1, Res.bind_ok, h2, Res.bind_ok]
theorem f27 {n : Nat} {ws : Ws} {th : List Bx} (p : D → D → Option Sl) (r : Sl) (h : p (.list [.int 0]) (.int (n : Int)) = some r) : sOp2 p (.ex (sLst (aC (sC (.int 0)) aN))) (.nm 3) [S, x1, x2, some (.val (.int (n : Int))), some (.val (eSc n ws)), some (.val (eT th)), x6, x7, x8, x9, x10, x11, x12, x13, x14, x15, x16, x17, x18, x19, x20, x21, x22, x23] = .ok r [S, x1, x2, some (.val (.int (n : Int))), some (.val (eSc n ws)), some (.val (eT th)), x6, x7, x8, x9, x10, x11, x12, x13, x14, x15, x16, x17, x18, x19, x20, x21, x22, x23] := by
  have e0 : (0 : Nat) ≤ sizeLine := Nat.zero_le _
  simp only [mSet_ap, sLst_ap, aC_ap, sC_ap, Res.bind_ok, sTup_ap, aN_ap, List.length_nil, if_pos e0, sN1_ap, ph1_nm, ph2_nm, List.getElem?_cons_zero, List.getElem?_cons_succ, frz_val, Option.bind_some, Res.ofO_some, sOp2_ap, sOp1_ap, ph1_ex, ph2_ex, sSl_ap, bd_no, bd_ex, sVar_ap, intD_i, pNeg_int, pAdd_int, pSub_int, List.length_cons, Nat.zero_add, Nat.reduceAdd, if_pos z1, if_pos z2, if_pos z3, if_pos z6, frz_lst, Res.out_ok, List.set, sCallL_ap, sCall_ap, h]
theorem it27 {n : Nat} {ws : Ws} {th : List Bx} (hn : n ≤ 900) : sLst (aC (sC .none) (aC (sTup aN) (aC (sOp2 pRep (.ex (sTup (aC (sC (.int 0)) aN))) (.ex (sOp2 pAdd (.nm 3) (.ex (sC (.int 1)))))) (aC (sOp2 pRep (.ex (sLst (aC (sC (.int 0)) aN))) (.nm 3)) (aC (sOp2 pRep (.ex (sTup (aC (sC (.int 4001)) aN))) (.nm 3)) (aC (sOp2 pRep (.ex (sTup (aC (sC .none) aN))) (.nm 3)) aN)))))) [S, x1, x2, some (.val (.int (n : Int))), some (.val (eSc n ws)), some (.val (eT th)), x6, x7, x8, x9, x10, x11, x12, x13, x14, x15, x16, x17, x18, x19, x20, x21, x22, x23] = .ok (.own (.lst (badP n))) [S, x1, x2, some (.val (.int (n : Int))), some (.val (eSc n ws)), some (.val (eT th)), x6, x7, x8, x9, x10, x11, x12, x13, x14, x15, x16, x17, x18, x19, x20, x21, x22, x23] := by
  have e0 : (0 : Nat) ≤ sizeLine := Nat.zero_le _
  have rp := repV 4001 n (by omega)
  have rq := repV 0 (n + 1) (by omega)
  have en : (n : Int) + 1 = ((n + 1 : Nat) : Int) := by omega
  have rl := repL (.int 0) n (by omega)
  have rn := rep1 .none n (by omega)
  have f1 : sC .none [S, x1, x2, some (.val (.int (n : Int))), some (.val (eSc n ws)), some (.val (eT th)), x6, x7, x8, x9, x10, x11, x12, x13, x14, x15, x16, x17, x18, x19, x20, x21, x22, x23] = .ok (.val .none) [S, x1, x2, some (.val (.int (n : Int))), some (.val (eSc n ws)), some (.val (eT th)), x6, x7, x8, x9, x10, x11, x12, x13, x14, x15, x16, x17, x18, x19, x20, x21, x22, x23] := by rw [sC_ap]
  have f2 : sTup aN [S, x1, x2, some (.val (.int (n : Int))), some (.val (eSc n ws)), some (.val (eT th)), x6, x7, x8, x9, x10, x11, x12, x13, x14, x15, x16, x17, x18, x19, x20, x21, x22, x23] = .ok (.val (.tuple [])) [S, x1, x2, some (.val (.int (n : Int))), some (.val (eSc n ws)), some (.val (eT th)), x6, x7, x8, x9, x10, x11, x12, x13, x14, x15, x16, x17, x18, x19, x20, x21, x22, x23] := by simp only [mSet_ap, sLst_ap, aC_ap, sC_ap, Res.bind_ok, sTup_ap, aN_ap, List.length_nil, if_pos e0, sN1_ap, ph1_nm, ph2_nm, List.getElem?_cons_zero, List.getElem?_cons_succ, frz_val, Option.bind_some, Res.ofO_some, sOp2_ap, sOp1_ap, ph1_ex, ph2_ex, sSl_ap, bd_no, bd_ex, sVar_ap, intD_i, pNeg_int, pAdd_int, pSub_int, List.length_cons, Nat.zero_add, Nat.reduceAdd, if_pos z1, if_pos z2, if_pos z3, if_pos z6, frz_lst, Res.out_ok, List.set, sCallL_ap, sCall_ap]
  have f3 : sOp2 pRep (.ex (sTup (aC (sC (.int 0)) aN))) (.ex (sOp2 pAdd (.nm 3) (.ex (sC (.int 1))))) [S, x1, x2, some (.val (.int (n : Int))), some (.val (eSc n ws)), some (.val (eT th)), x6, x7, x8, x9, x10, x11, x12, x13, x14, x15, x16, x17, x18, x19, x20, x21, x22, x23] = .ok (.val (eV (List.replicate (n + 1) 0))) [S, x1, x2, some (.val (.int (n : Int))), some (.val (eSc n ws)), some (.val (eT th)), x6, x7, x8, x9, x10, x11, x12, x13, x14, x15, x16, x17, x18, x19, x20, x21, x22, x23] := by simp only [mSet_ap, sLst_ap, aC_ap, sC_ap, Res.bind_ok, sTup_ap, aN_ap, List.length_nil, if_pos e0, sN1_ap, ph1_nm, ph2_nm, List.getElem?_cons_zero, List.getElem?_cons_succ, frz_val, Option.bind_some, Res.ofO_some, sOp2_ap, sOp1_ap, ph1_ex, ph2_ex, sSl_ap, bd_no, bd_ex, sVar_ap, intD_i, pNeg_int, pAdd_int, pSub_int, List.length_cons, Nat.zero_add, Nat.reduceAdd, if_pos z1, if_pos z2, if_pos z3, if_pos z6, frz_lst, Res.out_ok, List.set, sCallL_ap, sCall_ap, en, rq]
  have f4 : sOp2 pRep (.ex (sLst (aC (sC (.int 0)) aN))) (.nm 3) [S, x1, x2, some (.val (.int (n : Int))), some (.val (eSc n ws)), some (.val (eT th)), x6, x7, x8, x9, x10, x11, x12, x13, x14, x15, x16, x17, x18, x19, x20, x21, x22, x23] = .ok (.own (.lst (List.replicate n (.int 0)))) [S, x1, x2, some (.val (.int (n : Int))), some (.val (eSc n ws)), some (.val (eT th)), x6, x7, x8, x9, x10, x11, x12, x13, x14, x15, x16, x17, x18, x19, x20, x21, x22, x23] := f27 pRep _ rl
  have f5 : sOp2 pRep (.ex (sTup (aC (sC (.int 4001)) aN))) (.nm 3) [S, x1, x2, some (.val (.int (n : Int))), some (.val (eSc n ws)), some (.val (eT th)), x6, x7, x8, x9, x10, x11, x12, x13, x14, x15, x16, x17, x18, x19, x20, x21, x22, x23] = .ok (.val (eV (List.replicate n 4001))) [S, x1, x2, some (.val (.int (n : Int))), some (.val (eSc n ws)), some (.val (eT th)), x6, x7, x8, x9, x10, x11, x12, x13, x14, x15, x16, x17, x18, x19, x20, x21, x22, x23] := by simp only [mSet_ap, sLst_ap, aC_ap, sC_ap, Res.bind_ok, sTup_ap, aN_ap, List.length_nil, if_pos e0, sN1_ap, ph1_nm, ph2_nm, List.getElem?_cons_zero, List.getElem?_cons_succ, frz_val, Option.bind_some, Res.ofO_some, sOp2_ap, sOp1_ap, ph1_ex, ph2_ex, sSl_ap, bd_no, bd_ex, sVar_ap, intD_i, pNeg_int, pAdd_int, pSub_int, List.length_cons, Nat.zero_add, Nat.reduceAdd, if_pos z1, if_pos z2, if_pos z3, if_pos z6, frz_lst, Res.out_ok, List.set, sCallL_ap, sCall_ap, rp]
  have f6 : sOp2 pRep (.ex (sTup (aC (sC .none) aN))) (.nm 3) [S, x1, x2, some (.val (.int (n : Int))), some (.val (eSc n ws)), some (.val (eT th)), x6, x7, x8, x9, x10, x11, x12, x13, x14, x15, x16, x17, x18, x19, x20, x21, x22, x23] = .ok (.val (.tuple (List.replicate n .none))) [S, x1, x2, some (.val (.int (n : Int))), some (.val (eSc n ws)), some (.val (eT th)), x6, x7, x8, x9, x10, x11, x12, x13, x14, x15, x16, x17, x18, x19, x20, x21, x22, x23] := by simp only [mSet_ap, sLst_ap, aC_ap, sC_ap, Res.bind_ok, sTup_ap, aN_ap, List.length_nil, if_pos e0, sN1_ap, ph1_nm, ph2_nm, List.getElem?_cons_zero, List.getElem?_cons_succ, frz_val, Option.bind_some, Res.ofO_some, sOp2_ap, sOp1_ap, ph1_ex, ph2_ex, sSl_ap, bd_no, bd_ex, sVar_ap, intD_i, pNeg_int, pAdd_int, pSub_int, List.length_cons, Nat.zero_add, Nat.reduceAdd, if_pos z1, if_pos z2, if_pos z3, if_pos z6, frz_lst, Res.out_ok, List.set, sCallL_ap, sCall_ap, rn]
  have hl := aC_ok f1 (aC_ok f2 (aC_ok f3 (aC_ok f4 (aC_ok f5 (aC_ok f6 (aN_ap [S, x1, x2, some (.val (.int (n : Int))), some (.val (eSc n ws)), some (.val (eT th)), x6, x7, x8, x9, x10, x11, x12, x13, x14, x15, x16, x17, x18, x19, x20, x21, x22, x23]))))))
  rw [sLst_ap, hl, Res.bind_ok]
  exact if_pos z6
theorem turn27 {TF : Fn} {n : Nat} {ws : Ws} {th : List Bx} {d : D} (h1 : TF [.int 1, eSc n ws, eT th, d] = .ok (.val (.str "form"))) : turnC (.nm 8) (bVal (sOp2 pNe (.ex (sCall TF (aC (sC (.int 1)) (aC (sVar 4) (aC (sVar 5) (aC (sVar 8) aN)))))) (.ex (sC (.str "form"))))) (compGo (emit1 (sVar 8)) []) d (wipeE [S, x1, x2, some (.val (.int (n : Int))), some (.val (eSc n ws)), some (.val (eT th)), x6, x7, x8, x9, x10, x11, x12, x13, x14, x15, x16, x17, x18, x19, x20, x21, x22, x23] [8]) = .ok [] (wipeE [S, x1, x2, some (.val (.int (n : Int))), some (.val (eSc n ws)), some (.val (eT th)), x6, x7, x8, x9, x10, x11, x12, x13, x14, x15, x16, x17, x18, x19, x20, x21, x22, x23] [8]) := by
  have fe := formEq1
  have e0 : (0 : Nat) ≤ sizeLine := Nat.zero_le _
  simp only [turnC, assignT_nm, wipeE_cons, wipeE_nil, bVal_ap, mSet_ap, sLst_ap, aC_ap, sC_ap, Res.bind_ok, sTup_ap, aN_ap, List.length_nil, if_pos e0, sN1_ap, ph1_nm, ph2_nm, List.getElem?_cons_zero, List.getElem?_cons_succ, frz_val, Option.bind_some, Res.ofO_some, sOp2_ap, sOp1_ap, ph1_ex, ph2_ex, sSl_ap, bd_no, bd_ex, sVar_ap, intD_i, pNeg_int, pAdd_int, pSub_int, List.length_cons, Nat.zero_add, Nat.reduceAdd, if_pos z1, if_pos z2, if_pos z3, if_pos z6, frz_lst, Res.out_ok, List.set, sCallL_ap, sCall_ap, h1, fe, boolD_b, Bool.false_eq_true, if_false, slots_nm]
theorem comp27 {TF : Fn} {n : Nat} {ws : Ws} {th : List Bx} (hn : n ≤ 900) (k8 : keepV x8 = x8) (h : ∀ d ∈ badP n, TF [.int 1, eSc n ws, eT th, d] = .ok (.val (.str "form"))) : (sListComp [8] ⟨(sIt (sLst (aC (sC .none) (aC (sTup aN) (aC (sOp2 pRep (.ex (sTup (aC (sC (.int 0)) aN))) (.ex (sOp2 pAdd (.nm 3) (.ex (sC (.int 1)))))) (aC (sOp2 pRep (.ex (sLst (aC (sC (.int 0)) aN))) (.nm 3)) (aC (sOp2 pRep (.ex (sTup (aC (sC (.int 4001)) aN))) (.nm 3)) (aC (sOp2 pRep (.ex (sTup (aC (sC .none) aN))) (.nm 3)) aN)))))))), (.nm 8), (bVal (sOp2 pNe (.ex (sCall TF (aC (sC (.int 1)) (aC (sVar 4) (aC (sVar 5) (aC (sVar 8) aN)))))) (.ex (sC (.str "form")))))⟩ [] (sVar 8)) [S, x1, x2, some (.val (.int (n : Int))), some (.val (eSc n ws)), some (.val (eT th)), x6, x7, x8, x9, x10, x11, x12, x13, x14, x15, x16, x17, x18, x19, x20, x21, x22, x23] = .ok (.own (.lst [])) [S, x1, x2, some (.val (.int (n : Int))), some (.val (eSc n ws)), some (.val (eT th)), x6, x7, x8, x9, x10, x11, x12, x13, x14, x15, x16, x17, x18, x19, x20, x21, x22, x23] := by
  have hm := sLC_go (vs := [8]) (it := sIt (sLst (aC (sC .none) (aC (sTup aN) (aC (sOp2 pRep (.ex (sTup (aC (sC (.int 0)) aN))) (.ex (sOp2 pAdd (.nm 3) (.ex (sC (.int 1)))))) (aC (sOp2 pRep (.ex (sLst (aC (sC (.int 0)) aN))) (.nm 3)) (aC (sOp2 pRep (.ex (sTup (aC (sC (.int 4001)) aN))) (.nm 3)) (aC (sOp2 pRep (.ex (sTup (aC (sC .none) aN))) (.nm 3)) aN))))))))
    (tg := .nm 8) (cond := (bVal (sOp2 pNe (.ex (sCall TF (aC (sC (.int 1)) (aC (sVar 4) (aC (sVar 5) (aC (sVar 8) aN)))))) (.ex (sC (.str "form")))))) (dcs := []) (f := sVar 8) (ρ := [S, x1, x2, some (.val (.int (n : Int))), some (.val (eSc n ws)), some (.val (eT th)), x6, x7, x8, x9, x10, x11, x12, x13, x14, x15, x16, x17, x18, x19, x20, x21, x22, x23]) [S, x1, x2, some (.val (.int (n : Int))), some (.val (eSc n ws)), some (.val (eT th)), x6, x7, x8, x9, x10, x11, x12, x13, x14, x15, x16, x17, x18, x19, x20, x21, x22, x23] (badP n) id (fun _ => []) (by rw [sIt_ap, it27 hn, List.map_id, Res.bind_ok, obfrz_own, iterD_l]) (hr27 k8) (fun d hd => turn27 (h d hd)) (nilG _)
  rw [nilE] at hm
  exact hm
theorem c27 {TF : Fn} {n : Nat} {ws : Ws} {th : List Bx} (hn : n ≤ 900) (k8 : keepV x8 = x8) (h : ∀ d ∈ badP n, TF [.int 1, eSc n ws, eT th, d] = .ok (.val (.str "form"))) : ab27 TF [S, x1, x2, some (.val (.int (n : Int))), some (.val (eSc n ws)), some (.val (eT th)), x6, x7, x8, x9, x10, x11, x12, x13, x14, x15, x16, x17, x18, x19, x20, x21, x22, x23] = .nx [S, x1, x2, some (.val (.int (n : Int))), some (.val (eSc n ws)), some (.val (eT th)), x6, x7, x8, x9, x10, x11, x12, x13, x14, x15, x16, x17, x18, x19, x20, x21, x22, x23] := by
  unfold ab27
  rw [mIf_ap, bVal_ap, sNeNil (comp27 hn k8 h) (by simp [okEq, PyData.depth, PyData.depthAll])]
  simp
end
end Sd.K06

set_option Elab.async false
set_option linter.all false
set_option maxRecDepth 100000
set_option maxHeartbeats 4000000
set_option autoImplicit false
namespace Sd.K06
open PySem PySem.Spec PyProof.Rows L2 C8 Sd PySem.W


structure Fx (n : Nat) (ws : Ws) (th bs : List Bx) : Prop where
  hn : n = 2 ∨ n = 3
  wl : ∀ w ∈ wallsL ws, w.length = n
  wc : (wallsL ws).length ≤ 12
  ht : ThS n th
  hb : bs = barL (wallsL ws) th
  ok : BarsOk n bs
  bar : F_barred_boxes [eSc n ws, eT th] = .ok (.val (eT bs))
theorem dim_th {n : Nat} {th : List Bx} (h0 : 0 < th.length) (h : ∀ b ∈ th, b.length = n) : F_dimension [eT th] = .ok (.val (.int (n : Int))) := by
  cases th with
  | nil => cases h0
  | cons b bs => rw [dimension_ok, h b (by simp)]
theorem flat_le {α β : Type} (f : α → List β) (c : Nat) : ∀ xs : List α, (∀ x ∈ xs, (f x).length ≤ c) → (xs.flatMap f).length ≤ c * xs.length
  | [], _ => by simp
  | x :: xs, h => by
    have h1 := h x (by simp)
    have h2 := flat_le f c xs fun y hy => h y (by simp [hy])
    rw [List.flatMap_cons, List.length_append, List.length_cons, Nat.mul_succ]
    omega
theorem fx_of {n : Nat} {ws : Ws} {th : List Bx} (hn : n = 2 ∨ n = 3) (hw : ws.length ≤ 6 ∧ (∀ p ∈ ws, p.2.length ≤ 2 ∧ ∀ b ∈ p.2, b.length = n ∧ ∀ q ∈ b, nearF 4 3 q)) (ht : ThS n th) : Fx n ws th (barL (wallsL ws) th) := by
  have wn : ∀ w ∈ wallsL ws, w.length = n ∧ ∀ q ∈ w, nearF 4 3 q := by
    intro w hw'
    obtain ⟨p, hp, hwp⟩ := List.mem_flatMap.mp hw'
    exact (hw.2 p hp).2 w hwp
  have wc : (wallsL ws).length ≤ 12 := by
    have := flat_le (fun p : Str × List Bx => p.2) 2 ws fun p hp => (hw.2 p hp).1
    have h6 := hw.1
    show (ws.flatMap (·.2)).length ≤ 12
    omega
  have tl : th.length ≤ 3 := ht.2.1
  refine ⟨hn, fun w h => (wn w h).1, wc, ht, rfl, ⟨?_, ?_⟩, ?_⟩
  · have := flat_le (fun w : Bx => th.map (barB w)) 3 (wallsL ws) fun w _ => by rw [List.length_map]; exact tl
    show ((wallsL ws).flatMap fun w => th.map (barB w)).length ≤ 100
    omega
  · intro b hb
    obtain ⟨w, hw', hb⟩ := List.mem_flatMap.mp hb
    obtain ⟨t, ht', rfl⟩ := List.mem_map.mp hb
    have w1 := wn w hw'
    have t1 := ht.2.2.1 t ht'
    refine ⟨by simp [barB]; omega, ?_⟩
    intro p hp
    unfold barB at hp
    obtain ⟨q, hq, rfl⟩ := List.mem_map.mp hp
    obtain ⟨q1, q2⟩ := q
    have m := List.of_mem_zip hq
    have a1 := w1.2 _ m.1
    have a2 := t1.2 _ m.2
    unfold nearF at a1 a2
    simp only
    omega
  · exact barred_ok n ws th (check_ok n ws (eT th) (thing_true hn ht.ok) (dim_th ht.1 fun b hb => (ht.2.2.1 b hb).1)) (by omega) (by omega) fun w h => by have := (wn w h).1; omega
theorem bars_in {n : Nat} {bs : List Bx} (h : BarsOk n bs) : ∀ b ∈ bs, b.length = n ∧ ∀ p ∈ b, p.1 < p.2 := fun b hb => ⟨(h.2 b hb).1, fun p hp => ((h.2 b hb).2 p hp).2.1⟩
theorem place_true {n : Nat} {v : List Int} (h : PlaceOk n v) : F_is_place [eV v, .int (n : Int)] = .ok (.val (.bool true)) := by
  rw [is_place_D (eV v) n (plain_eV v), placeB_of h.1 fun x hx => by have := h.2 x hx; omega]


def L1 (S x2 x14 x15 x16 x17 x18 x19 x20 x21 x22 x23 : Option Sl) (n : Nat) (ws : Ws) (th bs : List Bx) (ρ : Ev) : Prop := ∃ (ds : List Int) (s6 : Sl) (x7 x8 x9 x10 x13 : Option Sl), (s6 = .own (.lst (bs.map eB)) ∨ s6 = .val (.list (bs.map eB))) ∧ keepV x8 = x8 ∧ keepV x9 = x9 ∧ ρ = [S, some (.own (oI ds)), x2, some (.val (.int (n : Int))), some (.val (eSc n ws)), some (.val (eT th)), some s6, x7, x8, x9, x10, none, none, x13, x14, x15, x16, x17, x18, x19, x20, x21, x22, x23]

theorem turn1 {S x2 x14 x15 x16 x17 x18 x19 x20 x21 x22 x23 : Option Sl} {n : Nat} {ws : Ws} {th bs : List Bx} (fx : Fx n ws th bs) (a : Nat) (ρ : Ev) (h : L1 S x2 x14 x15 x16 x17 x18 x19 x20 x21 x22 x23 n ws th bs ρ) : ∃ ρ1 ρ2, assignT (.nm 7) (eN a) ρ = some ρ1 ∧ mabb10 ρ1 = .nx ρ2 ∧ L1 S x2 x14 x15 x16 x17 x18 x19 x20 x21 x22 x23 n ws th bs ρ2 := by
  obtain ⟨ds, s6, x7, x8, x9, x10, x13, h6, k8, k9, rfl⟩ := h
  refine ⟨[S, some (.own (oI ds)), x2, some (.val (.int (n : Int))), some (.val (eSc n ws)), some (.val (eT th)), some s6, some (.val (eN a)), x8, x9, x10, none, none, x13, x14, x15, x16, x17, x18, x19, x20, x21, x22, x23], ?_⟩
  have hn := fx.hn
  have hn0 : n ≤ 1000 := by omega
  obtain ⟨v, e1, lv, bv, r6⟩ := b6 (S := S) (x2 := x2) (x4 := some (.val (eSc n ws))) (x5 := some (.val (eT th))) (x6 := some s6) (x7 := some (.val (eN a))) (x8 := x8) (x9 := x9) (x10 := x10) (x11 := none) (x12 := none) (x13 := x13) (x14 := x14) (x15 := x15) (x16 := x16) (x17 := x17) (x18 := x18) (x19 := x19) (x20 := x20) (x21 := x21) (x22 := x22) (x23 := x23) law_take hn0 k9 ds
  have h6f : s6.frz = .list (bs.map eB) := by rcases h6 with rfl | rfl <;> rfl
  obtain ⟨w, e2, y10, hw, r7⟩ := b7 (S := S) (x2 := x2) (x3 := some (.val (.int (n : Int)))) (x4 := some (.val (eSc n ws))) (x5 := some (.val (eT th))) (x7 := some (.val (eN a))) (x9 := x9) (x10 := x10) (x13 := x13) (x14 := x14) (x15 := x15) (x16 := x16) (x17 := x17) (x18 := x18) (x19 := x19) (x20 := x20) (x21 := x21) (x22 := x22) (x23 := x23) law_take hn0 h6f fx.ok (v := v) ⟨lv, fun x hx => by have := bv x hx; omega⟩ e1
  have hf : freeB (barL (wallsL ws) th) w = freeB bs w := by rw [fx.hb]
  have st := stands_ok n ws th w hn0 fx.wl (fun b hb => (fx.ht.2.2.1 b hb).1) hw.1 (by have := fx.wc; omega)
  rw [hf] at st
  have r8 := b8 (S := S) (x1 := some (.own (oI e2))) (x2 := x2) (x3 := some (.val (.int (n : Int)))) (x6 := some s6) (x7 := some (.val (eN a))) (x9 := x9) (x10 := y10) (x11 := none) (x12 := none) (x13 := x13) (x14 := x14) (x15 := x15) (x16 := x16) (x17 := x17) (x18 := x18) (x19 := x19) (x20 := x20) (x21 := x21) (x22 := x22) (x23 := x23) st
  have hl : bs.length ≤ 1000000 := by have := fx.ok.1; omega
  have r9 := b9 (S := S) (x1 := some (.own (oI e2))) (x2 := x2) (x3 := some (.val (.int (n : Int)))) (x7 := some (.val (eN a))) (x9 := x9) (x10 := y10) (x11 := none) (x12 := none) (x14 := x14) (x15 := x15) (x16 := x16) (x17 := x17) (x18 := x18) (x19 := x19) (x20 := x20) (x21 := x21) (x22 := x22) (x23 := x23) h6 says_are (told1 _ _ _ _ (clear_ok n ws (eT th) bs w fx.bar (place_true hw))) (lclear_ok bs w (fun b hb => ((fx.ok.2 b hb).1).trans hw.1.symm) (by rw [hw.1]; exact hn0) hl (.list (bs.map eB)) rfl)
  refine ⟨[S, some (.own (oI e2)), x2, some (.val (.int (n : Int))), some (.val (eSc n ws)), some (.val (eT th)), some (.val (.list (bs.map eB))), some (.val (eN a)), some (.val (eV w)), x9, y10, none, none, some (.val (.bool (freeB bs w))), x14, x15, x16, x17, x18, x19, x20, x21, x22, x23], by rw [assignT_nm]; simp only [List.set], ?_, ?_⟩
  · unfold mabb10
    rw [mSeq_ap, r6, Out.seq_nx, mSeq_ap, r7, Out.seq_nx, mSeq_ap, r8, Out.seq_nx, r9]
  · exact ⟨e2, _, _, _, _, _, _, .inr rfl, rfl, k9, rfl⟩
theorem loop1 {S x2 x14 x15 x16 x17 x18 x19 x20 x21 x22 x23 : Option Sl} {n : Nat} {ws : Ws} {th bs : List Bx} (fx : Fx n ws th bs) (ρ : Ev) (h : L1 S x2 x14 x15 x16 x17 x18 x19 x20 x21 x22 x23 n ws th bs ρ) : ∃ ρ', mFor (sRange1 (aC (sC (.int 8)) aN)) (.nm 7) mabb10 ρ = .nx ρ' ∧ L1 S x2 x14 x15 x16 x17 x18 x19 x20 x21 x22 x23 n ws th bs ρ' := by
  obtain ⟨ρ', h1, h2⟩ := forItems_map (t := .nm 7) (body := mabb10) eN (I := fun _ ρ => L1 S x2 x14 x15 x16 x17 x18 x19 x20 x21 x22 x23 n ws th bs ρ) (items := List.range 8) h (fun a _ ρ h => turn1 fx a ρ h)
  refine ⟨ρ', ?_, h2⟩
  have rg : sRange1 (aC (sC (.int 8)) aN) ρ = .ok ((List.range 8).map eN) ρ := sRange1_n (n := 8) (by simp) (by omega)
  rw [mFor_ap, rg, Res.out_ok, h1]


def L2 (S x2 x8 x10 x11 x12 x13 x17 x18 x19 x20 x21 x22 x23 : Option Sl) (n : Nat) (ws : Ws) (th bs : List Bx) (l : Nat) (ρ : Ev) : Prop := ∃ (ds : List Int) (s6 : Sl) (V : List (List Int)) (v : List Int) (x7 x9 x15 x16 : Option Sl), (s6 = .own (.lst (bs.map eB)) ∨ s6 = .val (.list (bs.map eB))) ∧ keepV x9 = x9 ∧ l ≤ 8 ∧ V.length + l ≤ 8 ∧ (∀ u ∈ V ++ [v], u.length = n ∧ ∀ x ∈ u, -(11 + 7 * (8 - (l : Int))) ≤ x ∧ x ≤ 11 + 7 * (8 - (l : Int))) ∧ ρ = [S, some (.own (oI ds)), x2, some (.val (.int (n : Int))), some (.val (eSc n ws)), some (.val (eT th)), some s6, x7, x8, x9, x10, x11, x12, x13, some (.own (.lst ((V ++ [v]).map eV))), x15, x16, x17, x18, x19, x20, x21, x22, x23]
theorem turn2 {S x2 x8 x10 x11 x12 x13 x17 x18 x19 x20 x21 x22 x23 : Option Sl} {n : Nat} {ws : Ws} {th bs : List Bx} (fx : Fx n ws th bs) (a l : Nat) (ρ : Ev) (h : L2 S x2 x8 x10 x11 x12 x13 x17 x18 x19 x20 x21 x22 x23 n ws th bs (l + 1) ρ) : ∃ ρ1 ρ2, assignT (.nm 7) (eN a) ρ = some ρ1 ∧ mabb15 ρ1 = .nx ρ2 ∧ L2 S x2 x8 x10 x11 x12 x13 x17 x18 x19 x20 x21 x22 x23 n ws th bs l ρ2 := by
  obtain ⟨ds, s6, V, v, x7, x9, x15, x16, h6, k9, hl8, hVl, hV, rfl⟩ := h
  refine ⟨[S, some (.own (oI ds)), x2, some (.val (.int (n : Int))), some (.val (eSc n ws)), some (.val (eT th)), some s6, some (.val (eN a)), x8, x9, x10, x11, x12, x13, some (.own (.lst ((V ++ [v]).map eV))), x15, x16, x17, x18, x19, x20, x21, x22, x23], ?_⟩
  have hn := fx.hn
  have hn0 : n ≤ 1000 := by omega
  obtain ⟨k, d, e1, hk, hd1, hd2, r12⟩ := c12 (S := S) (x2 := x2) (x4 := some (.val (eSc n ws))) (x5 := some (.val (eT th))) (x6 := some s6) (x7 := some (.val (eN a))) (x8 := x8) (x9 := x9) (x10 := x10) (x11 := x11) (x12 := x12) (x13 := x13) (x14 := some (.own (.lst ((V ++ [v]).map eV)))) (x15 := x15) (x16 := x16) (x17 := x17) (x18 := x18) (x19 := x19) (x20 := x20) (x21 := x21) (x22 := x22) (x23 := x23) (n := n) law_take (by omega) ds
  obtain ⟨w, hw, r13⟩ := c13 (S := S) (x1 := some (.own (oI e1))) (x2 := x2) (x3 := some (.val (.int (n : Int)))) (x4 := some (.val (eSc n ws))) (x5 := some (.val (eT th))) (x6 := some s6) (x7 := some (.val (eN a))) (x8 := x8) (x10 := x10) (x11 := x11) (x12 := x12) (x13 := x13) (x16 := x16) (x17 := x17) (x18 := x18) (x19 := x19) (x20 := x20) (x21 := x21) (x22 := x22) (x23 := x23) (n := n) (b := 11 + 7 * (8 - ((l + 1 : Nat) : Int))) (V := V) hk hn0 (hV v (by simp)) ⟨hd1, hd2⟩
  have hv := hV v (by simp)
  have sh := lshift_ok bs v w (.list (bs.map eB)) rfl (hv.1.trans hw.1.symm) (by rw [hv.1]; exact hn0) (fun b hb => ⟨((fx.ok.2 b hb).1).trans hv.1.symm, (bars_in fx.ok b hb).2⟩) (by have := fx.ok.1; omega) (fun x hx => by have := hv.2 x hx; omega) (fun x hx => by have := hw.2 x hx; omega)
  obtain ⟨W, e2, hW, r14⟩ := c14 (S := S) (x2 := x2) (x3 := some (.val (.int (n : Int)))) (x4 := some (.val (eSc n ws))) (x5 := some (.val (eT th))) (x7 := some (.val (eN a))) (x8 := x8) (x9 := some (.val (.int (k : Int)))) (x10 := x10) (x11 := x11) (x12 := x12) (x13 := x13) (x15 := some (.val (.int d))) (x17 := x17) (x18 := x18) (x19 := x19) (x20 := x20) (x21 := x21) (x22 := x22) (x23 := x23) (V := V) (v := v) (w := w) h6 law_take (by omega) sh e1
  refine ⟨[S, some (.own (oI e2)), x2, some (.val (.int (n : Int))), some (.val (eSc n ws)), some (.val (eT th)), some (.val (.list (bs.map eB))), some (.val (eN a)), x8, some (.val (.int (k : Int))), x10, x11, x12, x13, some (.own (.lst (W.map eV))), some (.val (.int d)), some (.val (eV w)), x17, x18, x19, x20, x21, x22, x23], by rw [assignT_nm]; simp only [List.set], ?_, ?_⟩
  · unfold mabb15
    rw [mSeq_ap, r12, Out.seq_nx, mSeq_ap, r13, Out.seq_nx, r14]
  · have hin : ∀ u ∈ V ++ [v] ++ [w], u.length = n ∧ ∀ x ∈ u, -(11 + 7 * (8 - (l : Int))) ≤ x ∧ x ≤ 11 + 7 * (8 - (l : Int)) := by
      intro u hu
      rcases List.mem_append.mp hu with hu | hu
      · refine ⟨(hV u hu).1, fun x hx => ?_⟩
        have := (hV u hu).2 x hx
        omega
      · rw [List.mem_singleton] at hu
        subst hu
        refine ⟨hw.1, fun x hx => ?_⟩
        have := hw.2 x hx
        omega
    rcases hW with rfl | rfl
    · exact ⟨e2, _, V, v, _, _, _, _, .inr rfl, rfl, by omega, by omega, fun u hu => hin u (List.mem_append_left _ hu), rfl⟩
    · exact ⟨e2, _, V ++ [v], w, _, _, _, _, .inr rfl, rfl, by omega, by simp; omega, hin, rfl⟩
theorem loop2 {S x2 x8 x10 x11 x12 x13 x17 x18 x19 x20 x21 x22 x23 : Option Sl} {n : Nat} {ws : Ws} {th bs : List Bx} (fx : Fx n ws th bs) (ρ : Ev) (h : L2 S x2 x8 x10 x11 x12 x13 x17 x18 x19 x20 x21 x22 x23 n ws th bs 8 ρ) : ∃ ρ', mFor (sRange1 (aC (sC (.int 8)) aN)) (.nm 7) mabb15 ρ = .nx ρ' ∧ L2 S x2 x8 x10 x11 x12 x13 x17 x18 x19 x20 x21 x22 x23 n ws th bs 0 ρ' := by
  obtain ⟨ρ', h1, h2⟩ := forItems_map (t := .nm 7) (body := mabb15) eN (I := fun as ρ => L2 S x2 x8 x10 x11 x12 x13 x17 x18 x19 x20 x21 x22 x23 n ws th bs as.length ρ) (items := List.range 8) h (fun a as ρ h => turn2 fx a as.length ρ h)
  refine ⟨ρ', ?_, h2⟩
  have rg : sRange1 (aC (sC (.int 8)) aN) ρ = .ok ((List.range 8).map eN) ρ := sRange1_n (n := 8) (by simp) (by omega)
  rw [mFor_ap, rg, Res.out_ok, h1]
end Sd.K06

set_option Elab.async false
set_option linter.all false
set_option maxRecDepth 100000
set_option maxHeartbeats 4000000
set_option autoImplicit false
namespace Sd.K06
open PySem PySem.Spec PyProof.Rows L2 C8 Sd PySem.W


def St (S : Option Sl) (ρ : Ev) : Prop := ∃ (ds : List Int) (x2 x3 x4 x5 x6 x7 x8 x9 x10 x13 x14 x15 x16 x17 x19 x20 x21 x23 : Option Sl), keepV x8 = x8 ∧ keepV x9 = x9 ∧ keepV x19 = x19 ∧ ρ = [S, some (.own (oI ds)), x2, x3, x4, x5, x6, x7, x8, x9, x10, none, none, x13, x14, x15, x16, x17, none, x19, x20, x21, none, x23]
theorem scenes_are {n : Nat} (hn : n = 2 ∨ n = 3) : SceneOk F__law_scene n := fun ds => law_scene n (by omega) (by omega) 4 2 (by omega) (by omega) 4 3 (by omega) (by omega) (by omega) ds
theorem things_are {n : Nat} (hn : n = 2 ∨ n = 3) (c : Nat) (h0 : 0 < c) (h1 : c ≤ 1000) : ThingOk F__law_thing n c := fun ds => law_thingF 2 2 (by omega) (by omega) (by omega) n (by omega) (by omega) c h0 h1 ds
theorem odd_bad {n : Nat} {ws : Ws} {d : D} (h : Odd n d) : F_barred_boxes [eSc n ws, d] = .exc "Malformed" := by
  refine barred_bad _ _ _ ?_
  rcases h with h | ⟨m, th, hm, hm2, rfl, ho⟩
  · exact check_bad1 n ws d h.2
  · exact check_bad2 n m ws _ hm (thing_true hm2 ho) (dim_th ho.1 fun b hb => (ho.2.2.1 b hb).1)
theorem turn_ok {S : Option Sl} {ρ : Ev} (a : Nat) (h : St S ρ) : ∃ ρ1 ρ2, assignT (.nm 2) (eN a) ρ = some ρ1 ∧ mab28 ρ1 = .nx ρ2 ∧ St S ρ2 := by
  obtain ⟨ds, x2, x3, x4, x5, x6, x7, x8, x9, x10, x13, x14, x15, x16, x17, x19, x20, x21, x23, k8, k9, k19, rfl⟩ := h
  refine ⟨[S, some (.own (oI ds)), some (.val (eN a)), x3, x4, x5, x6, x7, x8, x9, x10, none, none, x13, x14, x15, x16, x17, none, x19, x20, x21, none, x23], ?_⟩
  obtain ⟨n, e1, hn, q2⟩ := r2 (S := S) (x2 := some (.val (eN a))) (x3 := x3) (x4 := x4) (x5 := x5) (x6 := x6) (x7 := x7) (x8 := x8) (x9 := x9) (x10 := x10) (x11 := none) (x12 := none) (x13 := x13) (x14 := x14) (x15 := x15) (x16 := x16) (x17 := x17) (x18 := none) (x19 := x19) (x20 := x20) (x21 := x21) (x22 := none) (x23 := x23) law_take ds
  have hn0 : n ≤ 1000 := by omega
  obtain ⟨ws, th, e2, hws, hth, q3⟩ := r3 (S := S) (x2 := some (.val (eN a))) (x4 := x4) (x5 := x5) (x6 := x6) (x7 := x7) (x8 := x8) (x9 := x9) (x10 := x10) (x11 := none) (x12 := none) (x13 := x13) (x14 := x14) (x15 := x15) (x16 := x16) (x17 := x17) (x18 := none) (x19 := x19) (x20 := x20) (x21 := x21) (x22 := none) (x23 := x23) (scenes_are hn) (things_are hn 3 (by omega) (by omega)) e1
  obtain ⟨bs, fx⟩ : ∃ bs, Fx n ws th bs := ⟨_, fx_of hn hws hth⟩
  have wc := fx.wc
  have tl : th.length ≤ 3 := hth.2.1
  have bl : bs.length ≤ 100 := fx.ok.1
  have hlb : F__law_barred [eSc n ws, eT th] = .ok (.own (.lst (bs.map eB))) := by
    rw [fx.hb]
    exact lbarred_ok n ws th hn0 fx.wl (fun b hb => (fx.ht.2.2.1 b hb).1) (by omega) (by omega)
  have q4 := r4 (S := S) (x1 := some (.own (oI e2))) (x2 := some (.val (eN a))) (x3 := some (.val (.int (n : Int)))) (x6 := x6) (x7 := x7) (x8 := x8) (x9 := x9) (x10 := x10) (x11 := none) (x12 := none) (x13 := x13) (x14 := x14) (x15 := x15) (x16 := x16) (x17 := x17) (x18 := none) (x19 := x19) (x20 := x20) (x21 := x21) (x22 := none) (x23 := x23) hlb
  have q5 := r5 (S := S) (x1 := some (.own (oI e2))) (x2 := some (.val (eN a))) (x3 := some (.val (.int (n : Int)))) (x7 := x7) (x8 := x8) (x9 := x9) (x10 := x10) (x11 := none) (x12 := none) (x13 := x13) (x14 := x14) (x15 := x15) (x16 := x16) (x17 := x17) (x18 := none) (x19 := x19) (x20 := x20) (x21 := x21) (x22 := none) (x23 := x23) (told0 _ _ .none _ fx.bar) (alike_T bs (by omega) fun b hb => by rw [(fx.ok.2 b hb).1]; exact hn0)
  obtain ⟨ρ3, q10, e3, t6, y7, y8, y9, y10, y13, h6, k8b, k9b, rfl⟩ := loop1 (S := S) (x2 := some (.val (eN a))) (x14 := x14) (x15 := x15) (x16 := x16) (x17 := x17) (x18 := none) (x19 := x19) (x20 := x20) (x21 := x21) (x22 := none) (x23 := x23) fx [S, some (.own (oI e2)), some (.val (eN a)), some (.val (.int (n : Int))), some (.val (eSc n ws)), some (.val (eT th)), some (.own (.lst (bs.map eB))), x7, x8, x9, x10, none, none, x13, x14, x15, x16, x17, none, x19, x20, x21, none, x23] ⟨e2, _, x7, x8, x9, x10, x13, .inl rfl, k8, k9, rfl⟩
  obtain ⟨v, e4, lv, bv, q11⟩ := r11 (S := S) (x2 := some (.val (eN a))) (x4 := some (.val (eSc n ws))) (x5 := some (.val (eT th))) (x6 := some t6) (x7 := y7) (x8 := y8) (x9 := y9) (x10 := y10) (x11 := none) (x12 := none) (x13 := y13) (x14 := x14) (x15 := x15) (x16 := x16) (x17 := x17) (x18 := none) (x19 := x19) (x20 := x20) (x21 := x21) (x22 := none) (x23 := x23) law_take hn0 k9b e3
  have l2s : L2 S (some (.val (eN a))) (y8) (y10) (none) (none) (y13) (x17) (none) (x19) (x20) (x21) (none) (x23) n ws th bs 8 [S, some (.own (oI e4)), some (.val (eN a)), some (.val (.int (n : Int))), some (.val (eSc n ws)), some (.val (eT th)), some t6, y7, y8, y9, y10, none, none, y13, some (.own (.lst (([] ++ [v]).map eV))), x15, x16, x17, none, x19, x20, x21, none, x23] := by
    refine ⟨e4, t6, [], v, y7, y9, x15, x16, h6, k9b, by omega, by simp, ?_, rfl⟩
    intro u hu
    rw [List.nil_append, List.mem_singleton] at hu
    subst hu
    exact ⟨lv, fun x hx => by have := bv x hx; omega⟩
  obtain ⟨ρ4, q15, e5, u6, V, vl, z7, z9, z15, z16, g6, k9c, _, hVl, hV, rfl⟩ := loop2 (S := S) (x2 := some (.val (eN a))) (x8 := y8) (x10 := y10) (x11 := none) (x12 := none) (x13 := y13) (x17 := x17) (x18 := none) (x19 := x19) (x20 := x20) (x21 := x21) (x22 := none) (x23 := x23) fx _ l2s
  obtain ⟨W, hW⟩ : ∃ W, W = V ++ [vl] := ⟨_, rfl⟩
  rw [← hW, show (([] ++ [v] : List (List Int)).map eV) = [eV v] from rfl] at q15
  rw [← hW] at hV
  have hWl : W.length ≤ 9 := by rw [hW]; simp; omega
  have hW0 : 0 < W.length := by rw [hW]; simp
  have hWn : ∀ u ∈ W, u.length = n ∧ ∀ x ∈ u, -100 ≤ x ∧ x ≤ 100 := fun u hu => ⟨(hV u hu).1, fun x hx => by have := (hV u hu).2 x hx; omega⟩
  obtain ⟨p, vs, hpv⟩ : ∃ p vs, W = p :: vs := by
    cases W with
    | nil => simp at hW0
    | cons p vs => exact ⟨p, vs, rfl⟩
  have lvs : vs.length ≤ 8 := by have := hWl; rw [hpv] at this; simp at this; omega
  have hpn : ∀ u ∈ p :: vs, u.length = n ∧ ∀ x ∈ u, -100 ≤ x ∧ x ≤ 100 := by rw [← hpv]; exact hWn
  have wl := lway_ok bs n hn0 p vs (by omega) (by omega) (bars_in fx.ok) (fun u hu => ⟨(hpn u hu).1, fun x hx => by have := (hpn u hu).2 x hx; omega⟩) (.list (bs.map eB)) rfl
  have wo := way_ok n ws (eT th) bs p vs fx.bar (fun u hu => ⟨placeB_of (hpn u hu).1 fun x hx => by have := (hpn u hu).2 x hx; omega, by rw [(hpn u hu).1]; exact hn0⟩)
  have lo := length_ok p vs (fun u hu => by rw [(hpn u hu).1]; exact hn0)
  rw [← hpv] at wl wo lo
  have q16 := c16 (S := S) (x1 := some (.own (oI e5))) (x2 := some (.val (eN a))) (x4 := some (.val (eSc n ws))) (x5 := some (.val (eT th))) (x7 := z7) (x8 := y8) (x9 := z9) (x10 := y10) (x11 := none) (x12 := none) (x13 := y13) (x15 := z15) (x16 := z16) (x17 := x17) (x18 := none) (x19 := x19) (x20 := x20) (x21 := x21) (x22 := none) (x23 := x23) g6 wl
  have q17 := c17 (S := S) (x1 := some (.own (oI e5))) (x2 := some (.val (eN a))) (x4 := some (.val (eSc n ws))) (x5 := some (.val (eT th))) (x6 := some (.val (.list (bs.map eB)))) (x7 := z7) (x8 := y8) (x9 := z9) (x10 := y10) (x11 := none) (x12 := none) (x13 := y13) (x15 := z15) (x16 := z16) (x17 := some (.val (.bool (wB bs p vs)))) (x19 := x19) (x20 := x20) (x21 := x21) (x22 := none) (x23 := x23) hn0 (by omega) (fun u hu => (hpn u hu).1) k19
  rw [← hpv] at q17
  have q18 := c18 (S := S) (x1 := some (.own (oI e5))) (x2 := some (.val (eN a))) (x3 := some (.val (.int (n : Int)))) (x6 := some (.val (.list (bs.map eB)))) (x7 := z7) (x8 := y8) (x9 := z9) (x10 := y10) (x11 := none) (x12 := none) (x13 := y13) (x16 := z16) (x18 := none) (x19 := x19) (x20 := x20) (x21 := x21) (x22 := none) (x23 := x23) says_are (told2 _ _ _ _ wo) lo
  obtain ⟨k, e6, hk, q19⟩ := c19 (S := S) (x2 := some (.val (eN a))) (x3 := some (.val (.int (n : Int)))) (x4 := some (.val (eSc n ws))) (x5 := some (.val (eT th))) (x6 := some (.val (.list (bs.map eB)))) (x7 := z7) (x8 := y8) (x9 := z9) (x10 := y10) (x11 := none) (x12 := none) (x13 := y13) (x15 := some (.val (.int (lenL p vs)))) (x16 := z16) (x17 := some (.val (.bool (wB bs p vs)))) (x18 := none) (x19 := x19) (x20 := x20) (x21 := x21) (x22 := none) (x23 := x23) law_take hW0 e5
  have q20 := c20 (S := S) (x1 := some (.own (oI e6))) (x2 := some (.val (eN a))) (x3 := some (.val (.int (n : Int)))) (x4 := some (.val (eSc n ws))) (x5 := some (.val (eT th))) (x6 := some (.val (.list (bs.map eB)))) (x7 := z7) (x8 := y8) (x9 := z9) (x10 := y10) (x11 := none) (x12 := none) (x13 := y13) (x15 := some (.val (.int (lenL p vs)))) (x16 := z16) (x17 := some (.val (.bool (wB bs p vs)))) (x18 := none) (x19 := some (.val (.int (k : Int)))) (x20 := x20) (x21 := x21) (x22 := none) (x23 := x23) (W := W)
  obtain ⟨b1, lb1, g1, q21⟩ := c21 (S := S) (x1 := some (.own (oI e6))) (x2 := some (.val (eN a))) (x3 := some (.val (.int (n : Int)))) (x4 := some (.val (eSc n ws))) (x5 := some (.val (eT th))) (x6 := some (.val (.list (bs.map eB)))) (x7 := z7) (x8 := y8) (x9 := z9) (x10 := y10) (x11 := none) (x12 := none) (x13 := y13) (x14 := some (.own (.lst (W.map eV)))) (x15 := some (.val (.int (lenL p vs)))) (x16 := z16) (x17 := some (.val (.bool (wB bs p vs)))) (x18 := none) (x21 := x21) (x22 := none) (x23 := x23) hk (by omega)
  have w3 : ∀ u ∈ W, u.length ≤ 1000 := fun u hu => by rw [(hWn u hu).1]; exact hn0
  obtain ⟨b2, lb2, g2, q22⟩ := c22 (S := S) (x1 := some (.own (oI e6))) (x2 := some (.val (eN a))) (x4 := some (.val (eSc n ws))) (x5 := some (.val (eT th))) (x6 := some (.val (.list (bs.map eB)))) (x7 := z7) (x8 := y8) (x9 := z9) (x10 := y10) (x11 := none) (x12 := none) (x13 := y13) (x14 := some (.own (.lst (W.map eV)))) (x15 := some (.val (.int (lenL p vs)))) (x16 := z16) (x17 := some (.val (.bool (wB bs p vs)))) (x18 := none) (x22 := none) (x23 := x23) hn0 hk (by omega) g1 (by omega) w3
  obtain ⟨b3, lb3, g3, q23⟩ := c23 (S := S) (x1 := some (.own (oI e6))) (x2 := some (.val (eN a))) (x3 := some (.val (.int (n : Int)))) (x4 := some (.val (eSc n ws))) (x5 := some (.val (eT th))) (x6 := some (.val (.list (bs.map eB)))) (x7 := z7) (x8 := y8) (x9 := z9) (x10 := y10) (x11 := none) (x12 := none) (x13 := y13) (x14 := some (.own (.lst (W.map eV)))) (x15 := some (.val (.int (lenL p vs)))) (x16 := z16) (x17 := some (.val (.bool (wB bs p vs)))) (x18 := none) (x22 := none) (x23 := x23) hk (by omega) g2 (by omega) w3
  have q24 := c24 (S := S) (x1 := some (.own (oI e6))) (x2 := some (.val (eN a))) (x7 := z7) (x8 := y8) (x9 := z9) (x10 := y10) (x11 := none) (x12 := none) (x13 := y13) (x14 := some (.own (.lst (W.map eV)))) (x15 := some (.val (.int (lenL p vs)))) (x16 := z16) (x17 := some (.val (.bool (wB bs p vs)))) (x18 := none) (x19 := some (.val (.int (k : Int)))) (x20 := some (.val (eVs W))) (x23 := x23) (n := n) (ws := ws) (th := th) (bs := bs) says_are (by omega) (fun d hd => ways_same n hn0 ws (eT th) bs fx.bar (by omega) (bars_in fx.ok) d (g3 d hd).1.1 (by have := (g3 d hd).1.2; omega) (g3 d hd).2 (.list (bs.map eB)) rfl)
  obtain ⟨odd, e7, lo, go, q25⟩ := c25 (S := S) (x2 := some (.val (eN a))) (x4 := some (.val (eSc n ws))) (x6 := some (.val (.list (bs.map eB)))) (x7 := z7) (x8 := y8) (x9 := z9) (x10 := y10) (x11 := none) (x12 := none) (x13 := y13) (x14 := some (.own (.lst (W.map eV)))) (x15 := some (.val (.int (lenL p vs)))) (x16 := z16) (x17 := some (.val (.bool (wB bs p vs)))) (x18 := none) (x19 := some (.val (.int (k : Int)))) (x20 := some (.val (eVs W))) (x21 := some (.val (.list b3))) (x22 := none) (x23 := x23) hn fx.ht (fun m hm => things_are hm 2 (by omega) (by omega)) e6
  have q26 := c26 (S := S) (x1 := some (.own (oI e7))) (x2 := some (.val (eN a))) (x5 := some (.val (eT th))) (x6 := some (.val (.list (bs.map eB)))) (x7 := z7) (x8 := y8) (x9 := z9) (x10 := y10) (x11 := none) (x12 := none) (x13 := y13) (x14 := some (.own (.lst (W.map eV)))) (x15 := some (.val (.int (lenL p vs)))) (x16 := z16) (x17 := some (.val (.bool (wB bs p vs)))) (x18 := none) (x19 := some (.val (.int (k : Int)))) (x20 := some (.val (eVs W))) (x21 := some (.val (.list b3))) (TF := F__law_told) (n := n) (ws := ws) hn0 (by omega) (fun d hd => ⟨told0_bad _ _ _ (odd_bad (go d hd)), told1_bad _ _ _ (clear_bad _ _ _ _ (odd_bad (go d hd))), told2_bad _ _ _ (way_bad _ _ _ _ (odd_bad (go d hd)))⟩)
  have q27 := c27 (S := S) (x1 := some (.own (oI e7))) (x2 := some (.val (eN a))) (x6 := some (.val (.list (bs.map eB)))) (x7 := z7) (x8 := y8) (x9 := z9) (x10 := y10) (x11 := none) (x12 := none) (x13 := y13) (x14 := some (.own (.lst (W.map eV)))) (x15 := some (.val (.int (lenL p vs)))) (x16 := z16) (x17 := some (.val (.bool (wB bs p vs)))) (x18 := none) (x19 := some (.val (.int (k : Int)))) (x20 := some (.val (eVs W))) (x21 := some (.val (.list b3))) (x22 := none) (x23 := some (.val (.list odd))) (TF := F__law_told) (n := n) (ws := ws) (th := th) (by omega) k8b (fun d hd => told1_bad _ _ _ (clear_form n ws (eT th) d bs fx.bar (by
    have hb := badP_bad n (by omega) d hd
    rw [is_place_D d n hb.1, hb.2])))
  refine ⟨[S, some (.own (oI e7)), some (.val (eN a)), some (.val (.int (n : Int))), some (.val (eSc n ws)), some (.val (eT th)), some (.val (.list (bs.map eB))), z7, y8, z9, y10, none, none, y13, some (.own (.lst (W.map eV))), some (.val (.int (lenL p vs))), z16, some (.val (.bool (wB bs p vs))), none, some (.val (.int (k : Int))), some (.val (eVs W)), some (.val (.list b3)), none, some (.val (.list odd))], by rw [assignT_nm]; simp only [List.set], ?_, ?_⟩
  · unfold mab28
    rw [mSeq_ap, q2, Out.seq_nx, mSeq_ap, q3, Out.seq_nx, mSeq_ap, q4, Out.seq_nx, mSeq_ap, q5, Out.seq_nx, mSeq_ap, q10, Out.seq_nx, mSeq_ap, q11, Out.seq_nx, mSeq_ap, q15, Out.seq_nx, mSeq_ap, q16, Out.seq_nx, mSeq_ap, q17, Out.seq_nx, mSeq_ap, q18, Out.seq_nx, mSeq_ap, q19, Out.seq_nx, mSeq_ap, q20, Out.seq_nx, mSeq_ap, q21, Out.seq_nx, mSeq_ap, q22, Out.seq_nx, mSeq_ap, q23, Out.seq_nx, mSeq_ap, q24, Out.seq_nx, mSeq_ap, q25, Out.seq_nx, mSeq_ap, q26, Out.seq_nx, q27]
  · exact ⟨e7, _, _, _, _, _, _, _, _, _, _, _, _, _, _, _, _, _, _, k8b, k9c, rfl, rfl⟩
end Sd.K06

set_option Elab.async false
set_option linter.all false
set_option maxRecDepth 100000
set_option maxHeartbeats 0
set_option autoImplicit false
namespace Sd.K06
open PySem PySem.Spec PyProof.Rows L2 C8 Sd GenW GxR
def d_is_number : He.DefD := ⟨("is_number", none), "is_number", "is_number", fnArgs (top 1), fnBody (top 1), fnScope (top 1), [], []⟩
def d_is_stretch : He.DefD := ⟨("is_stretch", none), "is_stretch", "is_stretch", fnArgs (top 6), fnBody (top 6), fnScope (top 6), [], []⟩
def d_is_box : He.DefD := ⟨("is_box", none), "is_box", "is_box", fnArgs (top 5), fnBody (top 5), fnScope (top 5), [], []⟩
def d_is_place : He.DefD := ⟨("is_place", none), "is_place", "is_place", fnArgs (top 7), fnBody (top 7), fnScope (top 7), [], []⟩
def d_holds : He.DefD := ⟨("holds", none), "holds", "holds", fnArgs (top 8), fnBody (top 8), fnScope (top 8), [], []⟩
def d_is_thing : He.DefD := ⟨("is_thing", none), "is_thing", "is_thing", fnArgs (top 14), fnBody (top 14), fnScope (top 14), [], []⟩
def d_dimension : He.DefD := ⟨("dimension", none), "dimension", "dimension", fnArgs (top 15), fnBody (top 15), fnScope (top 15), [], []⟩
def d_walls_of : He.DefD := ⟨("walls_of", none), "walls_of", "walls_of", fnArgs (top 17), fnBody (top 17), fnScope (top 17), [], []⟩
def d_check_pair : He.DefD := ⟨("check_pair", none), "check_pair", "check_pair", fnArgs (top 19), fnBody (top 19), fnScope (top 19), [], []⟩
def d_barred_boxes : He.DefD := ⟨("barred_boxes", none), "barred_boxes", "barred_boxes", fnArgs (top 20), fnBody (top 20), fnScope (top 20), [], []⟩
def d_is_clear : He.DefD := ⟨("is_clear", none), "is_clear", "is_clear", fnArgs (top 21), fnBody (top 21), fnScope (top 21), [], []⟩
def d_meets : He.DefD := ⟨("meets", none), "meets", "meets", fnArgs (top 23), fnBody (top 23), fnScope (top 23), [], []⟩
def d_is_shift_clear : He.DefD := ⟨("is_shift_clear", none), "is_shift_clear", "is_shift_clear", fnArgs (top 22), fnBody (top 22), fnScope (top 22), [], []⟩
def d_is_way : He.DefD := ⟨("is_way", none), "is_way", "is_way", fnArgs (top 24), fnBody (top 24), fnScope (top 24), [], []⟩
def d_length_of : He.DefD := ⟨("length_of", none), "length_of", "length_of", fnArgs (top 25), fnBody (top 25), fnScope (top 25), [], []⟩
def d__law_draws : He.DefD := ⟨("_law_draws", none), "_law_draws", "_law_draws", fnArgs (top 27), fnBody (top 27), fnScope (top 27), [], []⟩
def d__law_take : He.DefD := ⟨("_law_take", none), "_law_take", "_law_take", fnArgs (top 28), fnBody (top 28), fnScope (top 28), [], []⟩
def d__law_alike : He.DefD := ⟨("_law_alike", none), "_law_alike", "_law_alike", fnArgs (top 29), fnBody (top 29), fnScope (top 29), [], []⟩
def d__law_says : He.DefD := ⟨("_law_says", none), "_law_says", "_law_says", fnArgs (top 30), fnBody (top 30), fnScope (top 30), [], []⟩
def d__law_box : He.DefD := ⟨("_law_box", none), "_law_box", "_law_box", fnArgs (top 31), fnBody (top 31), fnScope (top 31), [], []⟩
def d__law_thing : He.DefD := ⟨("_law_thing", none), "_law_thing", "_law_thing", fnArgs (top 32), fnBody (top 32), fnScope (top 32), [], []⟩
def d__law_scene : He.DefD := ⟨("_law_scene", none), "_law_scene", "_law_scene", fnArgs (top 33), fnBody (top 33), fnScope (top 33), [], []⟩
def d__law_clash : He.DefD := ⟨("_law_clash", none), "_law_clash", "_law_clash", fnArgs (top 34), fnBody (top 34), fnScope (top 34), [], []⟩
def d__law_still : He.DefD := ⟨("_law_still", none), "_law_still", "_law_still", fnArgs (top 35), fnBody (top 35), fnScope (top 35), [], []⟩
def d__law_barred : He.DefD := ⟨("_law_barred", none), "_law_barred", "_law_barred", fnArgs (top 36), fnBody (top 36), fnScope (top 36), [], []⟩
def d__law_within : He.DefD := ⟨("_law_within", none), "_law_within", "_law_within", fnArgs (top 37), fnBody (top 37), fnScope (top 37), [], []⟩
def d__law_clear : He.DefD := ⟨("_law_clear", none), "_law_clear", "_law_clear", fnArgs (top 38), fnBody (top 38), fnScope (top 38), [], []⟩
def d__law_told : He.DefD := ⟨("_law_told", none), "_law_told", "_law_told", fnArgs (top 39), fnBody (top 39), fnScope (top 39), [], []⟩
def d__law_stands : He.DefD := ⟨("_law_stands", none), "_law_stands", "_law_stands", fnArgs (top 40), fnBody (top 40), fnScope (top 40), [], []⟩
def d__law_shift : He.DefD := ⟨("_law_shift", none), "_law_shift", "_law_shift", fnArgs (top 41), fnBody (top 41), fnScope (top 41), [], []⟩
def d__law_way : He.DefD := ⟨("_law_way", none), "_law_way", "_law_way", fnArgs (top 42), fnBody (top 42), fnScope (top 42), [], []⟩
def d_law : He.DefD := ⟨("law", none), "law", "law", fnArgs (top 43), fnBody (top 43), fnScope (top 43), [], []⟩
def hfn0 : List He.DefD := [d_is_number, d_is_stretch, d_is_box, d_is_place, d_holds, d_is_thing, d_dimension, d_walls_of, d_check_pair, d_barred_boxes, d_is_clear, d_meets, d_is_shift_clear, d_is_way, d_length_of, d__law_draws, d__law_take, d__law_alike, d__law_says, d__law_box, d__law_thing, d__law_scene, d__law_clash, d__law_still, d__law_barred, d__law_within, d__law_clear, d__law_told, d__law_stands, d__law_shift]
def hfn1 : List He.DefD := [d__law_way, d_law]
def hfn : List He.DefD := hfn0 ++ hfn1
def hfa0 : List He.Fa := [.glo "is_number", .glo "is_stretch", .glo "is_box", .glo "is_place", .glo "holds", .glo "is_thing", .glo "dimension", .glo "walls_of", .glo "check_pair", .glo "barred_boxes", .glo "is_clear", .glo "meets", .glo "is_shift_clear", .glo "is_way", .glo "length_of", .glo "_law_draws", .glo "_law_take", .glo "_law_alike", .glo "_law_says", .glo "_law_box", .glo "_law_thing", .glo "_law_scene", .glo "_law_clash", .glo "_law_still", .glo "_law_barred", .glo "_law_within", .glo "_law_clear", .glo "_law_told", .glo "_law_stands", .glo "_law_shift"]
def hfa1 : List He.Fa := [.glo "_law_way", .glo "law", .free "abs", .free "all", .free "any", .free "bool", .free "dict", .free "int", .free "isinstance", .free "len", .free "list", .free "max", .free "min", .free "range", .free "reversed", .free "sorted", .free "str", .free "sum", .free "tuple", .free "zip", .int "MOST_BOXES" 8, .int "MOST_CORNER" 1000, .int "MOST_PLACE" 4000, .glo "Malformed", .exc "Malformed", .glo "SlideError", .exc "SlideError", .exm "Malformed" "SlideError" true]
def hfa : List He.Fa := hfa0 ++ hfa1
def htf0 : List He.Defn := [("is_stretch", none), ("is_box", none), ("is_place", none), ("holds", none), ("is_thing", none), ("is_clear", none), ("is_shift_clear", none), ("is_way", none)]
def htf : List He.Defn := htf0
def loose0 : List PySem.Str := ["is_number", "is_box", "is_stretch", "is_place", "holds", "is_thing", "dimension", "walls_of", "check_pair", "barred_boxes", "is_clear", "is_shift_clear", "meets", "is_way", "length_of", "_law_draws", "_law_take", "_law_alike", "_law_says", "_law_box", "_law_thing", "_law_scene", "_law_clash", "_law_still", "_law_barred", "_law_within", "_law_clear", "_law_told", "_law_stands", "_law_shift"]
def loose1 : List PySem.Str := ["_law_way", "MOST_CORNER", "MOST_PLACE", "MOST_BOXES", "SlideError", "Malformed"]
def loose : List PySem.Str := loose0 ++ loose1
def hex (K : PySem.W.Frag) : Bool := true && excB K "Malformed" && isB K "Malformed" "Malformed" true
abbrev RR : PySem.W.OpenRow := PySem.W.OpenLaw.row PySem.Challenge.rw_slideclear_k06_whole_clear_places_and_wa
abbrev hk : PySem.W.Hook := He.hookX 4 hfa hfn [] htf hex
def ob (s : PySem.W.SharedT) : He.AlX := He.obsX 4 hfa hfn [] htf hex (HandSHeadRun.getT s)
theorem ob_eq (s : PySem.W.SharedT) : ob s = hk.obs s.abs := He.obsX_eq (HandSHeadRun.getT_eq s)
theorem run (w : World) : HandSHeadRun.RunEq RR (PySem.W.view RR.prog [43]) hk ob 4000 loose w := by
  intro os
  kernel_rfl
theorem tx {P : Program} {w : World} {K : PySem.W.Frag} {h : Heap} {mg : Str → Option Value} {base : Heap} (KX : K.In h) (G : h.Ns mainGlobals mg) (c : He.SaysX hfa hfn [] htf hex w h K) (hT : ∀ p ∈ csOf K htf, TabB base mg p.1 p.2) : Tx P w K mg base ((csOf K htf).map (·.2)) where
  f_is_number := by
      obtain ⟨fd, Fn⟩ := c.t.d.def_ 0 (d := d_is_number) rfl
      exact ⟨_, fd, _, defC_of Fn (He.glo_ok KX G (c.t.d.fact 0 (f := .glo "is_number") rfl))⟩
  f_is_stretch := by
      obtain ⟨fd, Fn⟩ := c.t.d.def_ 1 (d := d_is_stretch) rfl
      exact ⟨_, fd, _, _, defC_of Fn (He.glo_ok KX G (c.t.d.fact 1 (f := .glo "is_stretch") rfl)), (hT _ (List.mem_map.mpr ⟨("is_stretch", none), by decide, rfl⟩)), List.mem_map.mpr ⟨_, List.mem_map.mpr ⟨("is_stretch", none), by decide, rfl⟩, rfl⟩⟩
  f_is_box := by
      obtain ⟨fd, Fn⟩ := c.t.d.def_ 2 (d := d_is_box) rfl
      exact ⟨_, fd, _, _, defC_of Fn (He.glo_ok KX G (c.t.d.fact 2 (f := .glo "is_box") rfl)), (hT _ (List.mem_map.mpr ⟨("is_box", none), by decide, rfl⟩)), List.mem_map.mpr ⟨_, List.mem_map.mpr ⟨("is_box", none), by decide, rfl⟩, rfl⟩⟩
  f_is_place := by
      obtain ⟨fd, Fn⟩ := c.t.d.def_ 3 (d := d_is_place) rfl
      exact ⟨_, fd, _, _, defC_of Fn (He.glo_ok KX G (c.t.d.fact 3 (f := .glo "is_place") rfl)), (hT _ (List.mem_map.mpr ⟨("is_place", none), by decide, rfl⟩)), List.mem_map.mpr ⟨_, List.mem_map.mpr ⟨("is_place", none), by decide, rfl⟩, rfl⟩⟩
  f_holds := by
      obtain ⟨fd, Fn⟩ := c.t.d.def_ 4 (d := d_holds) rfl
      exact ⟨_, fd, _, _, defC_of Fn (He.glo_ok KX G (c.t.d.fact 4 (f := .glo "holds") rfl)), (hT _ (List.mem_map.mpr ⟨("holds", none), by decide, rfl⟩)), List.mem_map.mpr ⟨_, List.mem_map.mpr ⟨("holds", none), by decide, rfl⟩, rfl⟩⟩
  f_is_thing := by
      obtain ⟨fd, Fn⟩ := c.t.d.def_ 5 (d := d_is_thing) rfl
      exact ⟨_, fd, _, _, defC_of Fn (He.glo_ok KX G (c.t.d.fact 5 (f := .glo "is_thing") rfl)), (hT _ (List.mem_map.mpr ⟨("is_thing", none), by decide, rfl⟩)), List.mem_map.mpr ⟨_, List.mem_map.mpr ⟨("is_thing", none), by decide, rfl⟩, rfl⟩⟩
  f_dimension := by
      obtain ⟨fd, Fn⟩ := c.t.d.def_ 6 (d := d_dimension) rfl
      exact ⟨_, fd, _, defC_of Fn (He.glo_ok KX G (c.t.d.fact 6 (f := .glo "dimension") rfl))⟩
  f_walls_of := by
      obtain ⟨fd, Fn⟩ := c.t.d.def_ 7 (d := d_walls_of) rfl
      exact ⟨_, fd, _, defC_of Fn (He.glo_ok KX G (c.t.d.fact 7 (f := .glo "walls_of") rfl))⟩
  f_check_pair := by
      obtain ⟨fd, Fn⟩ := c.t.d.def_ 8 (d := d_check_pair) rfl
      exact ⟨_, fd, _, defC_of Fn (He.glo_ok KX G (c.t.d.fact 8 (f := .glo "check_pair") rfl))⟩
  f_barred_boxes := by
      obtain ⟨fd, Fn⟩ := c.t.d.def_ 9 (d := d_barred_boxes) rfl
      exact ⟨_, fd, _, defC_of Fn (He.glo_ok KX G (c.t.d.fact 9 (f := .glo "barred_boxes") rfl))⟩
  f_is_clear := by
      obtain ⟨fd, Fn⟩ := c.t.d.def_ 10 (d := d_is_clear) rfl
      exact ⟨_, fd, _, _, defC_of Fn (He.glo_ok KX G (c.t.d.fact 10 (f := .glo "is_clear") rfl)), (hT _ (List.mem_map.mpr ⟨("is_clear", none), by decide, rfl⟩)), List.mem_map.mpr ⟨_, List.mem_map.mpr ⟨("is_clear", none), by decide, rfl⟩, rfl⟩⟩
  f_meets := by
      obtain ⟨fd, Fn⟩ := c.t.d.def_ 11 (d := d_meets) rfl
      exact ⟨_, fd, _, defC_of Fn (He.glo_ok KX G (c.t.d.fact 11 (f := .glo "meets") rfl))⟩
  f_is_shift_clear := by
      obtain ⟨fd, Fn⟩ := c.t.d.def_ 12 (d := d_is_shift_clear) rfl
      exact ⟨_, fd, _, _, defC_of Fn (He.glo_ok KX G (c.t.d.fact 12 (f := .glo "is_shift_clear") rfl)), (hT _ (List.mem_map.mpr ⟨("is_shift_clear", none), by decide, rfl⟩)), List.mem_map.mpr ⟨_, List.mem_map.mpr ⟨("is_shift_clear", none), by decide, rfl⟩, rfl⟩⟩
  f_is_way := by
      obtain ⟨fd, Fn⟩ := c.t.d.def_ 13 (d := d_is_way) rfl
      exact ⟨_, fd, _, _, defC_of Fn (He.glo_ok KX G (c.t.d.fact 13 (f := .glo "is_way") rfl)), (hT _ (List.mem_map.mpr ⟨("is_way", none), by decide, rfl⟩)), List.mem_map.mpr ⟨_, List.mem_map.mpr ⟨("is_way", none), by decide, rfl⟩, rfl⟩⟩
  f_length_of := by
      obtain ⟨fd, Fn⟩ := c.t.d.def_ 14 (d := d_length_of) rfl
      exact ⟨_, fd, _, defC_of Fn (He.glo_ok KX G (c.t.d.fact 14 (f := .glo "length_of") rfl))⟩
  f__law_draws := by
      obtain ⟨fd, Fn⟩ := c.t.d.def_ 15 (d := d__law_draws) rfl
      exact ⟨_, fd, _, defC_of Fn (He.glo_ok KX G (c.t.d.fact 15 (f := .glo "_law_draws") rfl))⟩
  f__law_take := by
      obtain ⟨fd, Fn⟩ := c.t.d.def_ 16 (d := d__law_take) rfl
      exact ⟨_, fd, _, defC_of Fn (He.glo_ok KX G (c.t.d.fact 16 (f := .glo "_law_take") rfl))⟩
  f__law_alike := by
      obtain ⟨fd, Fn⟩ := c.t.d.def_ 17 (d := d__law_alike) rfl
      exact ⟨_, fd, _, defC_of Fn (He.glo_ok KX G (c.t.d.fact 17 (f := .glo "_law_alike") rfl))⟩
  f__law_says := by
      obtain ⟨fd, Fn⟩ := c.t.d.def_ 18 (d := d__law_says) rfl
      exact ⟨_, fd, _, defC_of Fn (He.glo_ok KX G (c.t.d.fact 18 (f := .glo "_law_says") rfl))⟩
  f__law_box := by
      obtain ⟨fd, Fn⟩ := c.t.d.def_ 19 (d := d__law_box) rfl
      exact ⟨_, fd, _, defC_of Fn (He.glo_ok KX G (c.t.d.fact 19 (f := .glo "_law_box") rfl))⟩
  f__law_thing := by
      obtain ⟨fd, Fn⟩ := c.t.d.def_ 20 (d := d__law_thing) rfl
      exact ⟨_, fd, _, defC_of Fn (He.glo_ok KX G (c.t.d.fact 20 (f := .glo "_law_thing") rfl))⟩
  f__law_scene := by
      obtain ⟨fd, Fn⟩ := c.t.d.def_ 21 (d := d__law_scene) rfl
      exact ⟨_, fd, _, defC_of Fn (He.glo_ok KX G (c.t.d.fact 21 (f := .glo "_law_scene") rfl))⟩
  f__law_clash := by
      obtain ⟨fd, Fn⟩ := c.t.d.def_ 22 (d := d__law_clash) rfl
      exact ⟨_, fd, _, defC_of Fn (He.glo_ok KX G (c.t.d.fact 22 (f := .glo "_law_clash") rfl))⟩
  f__law_still := by
      obtain ⟨fd, Fn⟩ := c.t.d.def_ 23 (d := d__law_still) rfl
      exact ⟨_, fd, _, defC_of Fn (He.glo_ok KX G (c.t.d.fact 23 (f := .glo "_law_still") rfl))⟩
  f__law_barred := by
      obtain ⟨fd, Fn⟩ := c.t.d.def_ 24 (d := d__law_barred) rfl
      exact ⟨_, fd, _, defC_of Fn (He.glo_ok KX G (c.t.d.fact 24 (f := .glo "_law_barred") rfl))⟩
  f__law_within := by
      obtain ⟨fd, Fn⟩ := c.t.d.def_ 25 (d := d__law_within) rfl
      exact ⟨_, fd, _, defC_of Fn (He.glo_ok KX G (c.t.d.fact 25 (f := .glo "_law_within") rfl))⟩
  f__law_clear := by
      obtain ⟨fd, Fn⟩ := c.t.d.def_ 26 (d := d__law_clear) rfl
      exact ⟨_, fd, _, defC_of Fn (He.glo_ok KX G (c.t.d.fact 26 (f := .glo "_law_clear") rfl))⟩
  f__law_told := by
      obtain ⟨fd, Fn⟩ := c.t.d.def_ 27 (d := d__law_told) rfl
      exact ⟨_, fd, _, defC_of Fn (He.glo_ok KX G (c.t.d.fact 27 (f := .glo "_law_told") rfl))⟩
  f__law_stands := by
      obtain ⟨fd, Fn⟩ := c.t.d.def_ 28 (d := d__law_stands) rfl
      exact ⟨_, fd, _, defC_of Fn (He.glo_ok KX G (c.t.d.fact 28 (f := .glo "_law_stands") rfl))⟩
  f__law_shift := by
      obtain ⟨fd, Fn⟩ := c.t.d.def_ 29 (d := d__law_shift) rfl
      exact ⟨_, fd, _, defC_of Fn (He.glo_ok KX G (c.t.d.fact 29 (f := .glo "_law_shift") rfl))⟩
  f__law_way := by
      obtain ⟨fd, Fn⟩ := c.t.d.def_ 30 (d := d__law_way) rfl
      exact ⟨_, fd, _, defC_of Fn (He.glo_ok KX G (c.t.d.fact 30 (f := .glo "_law_way") rfl))⟩
  b_abs := He.free_ok KX G (c.t.d.fact 32 (f := .free "abs") rfl)
  b_all := He.free_ok KX G (c.t.d.fact 33 (f := .free "all") rfl)
  b_any := He.free_ok KX G (c.t.d.fact 34 (f := .free "any") rfl)
  b_bool := He.free_ok KX G (c.t.d.fact 35 (f := .free "bool") rfl)
  b_dict := He.free_ok KX G (c.t.d.fact 36 (f := .free "dict") rfl)
  b_int := He.free_ok KX G (c.t.d.fact 37 (f := .free "int") rfl)
  b_isinstance := He.free_ok KX G (c.t.d.fact 38 (f := .free "isinstance") rfl)
  b_len := He.free_ok KX G (c.t.d.fact 39 (f := .free "len") rfl)
  b_list := He.free_ok KX G (c.t.d.fact 40 (f := .free "list") rfl)
  b_max := He.free_ok KX G (c.t.d.fact 41 (f := .free "max") rfl)
  b_min := He.free_ok KX G (c.t.d.fact 42 (f := .free "min") rfl)
  b_range := He.free_ok KX G (c.t.d.fact 43 (f := .free "range") rfl)
  b_reversed := He.free_ok KX G (c.t.d.fact 44 (f := .free "reversed") rfl)
  b_sorted := He.free_ok KX G (c.t.d.fact 45 (f := .free "sorted") rfl)
  b_str := He.free_ok KX G (c.t.d.fact 46 (f := .free "str") rfl)
  b_sum := He.free_ok KX G (c.t.d.fact 47 (f := .free "sum") rfl)
  b_tuple := He.free_ok KX G (c.t.d.fact 48 (f := .free "tuple") rfl)
  b_zip := He.free_ok KX G (c.t.d.fact 49 (f := .free "zip") rfl)
  k_MOST_BOXES := He.int_ok KX G (c.t.d.fact 50 (f := .int "MOST_BOXES" 8) rfl)
  k_MOST_CORNER := He.int_ok KX G (c.t.d.fact 51 (f := .int "MOST_CORNER" 1000) rfl)
  k_MOST_PLACE := He.int_ok KX G (c.t.d.fact 52 (f := .int "MOST_PLACE" 4000) rfl)
  e_Malformed := ⟨_, excF_of (He.glo_ok KX G (c.t.d.fact 53 (f := .glo "Malformed") rfl)) (He.exc_ok (c.t.d.fact 54 (f := .exc "Malformed") rfl))⟩
  e_SlideError := ⟨_, excF_of (He.glo_ok KX G (c.t.d.fact 55 (f := .glo "SlideError") rfl)) (He.exc_ok (c.t.d.fact 56 (f := .exc "SlideError") rfl))⟩
  c_Malformed := fun C hC => excC_at (He.glo_ok KX G (c.t.d.fact 53 (f := .glo "Malformed") rfl)) hC (excB_ok (He.ba (He.ba c.more).1).2)
  m_Malformed_SlideError := fun C D hC hD => at_two (P := fun C D => PySem.W.exmOne K (.ref C) (.ref D) = some true) (He.glo_ok KX G (c.t.d.fact 53 (f := .glo "Malformed") rfl)) (He.glo_ok KX G (c.t.d.fact 55 (f := .glo "SlideError") rfl)) hC hD (He.exm_ok (c.t.d.fact 57 (f := .exm "Malformed" "SlideError" true) rfl))
  i_Malformed_Malformed := fun C D hC hD => at_two (P := fun C D => PySem.W.kitOne K (.ref C) (.ref D) = some true) (He.glo_ok KX G (c.t.d.fact 53 (f := .glo "Malformed") rfl)) (He.glo_ok KX G (c.t.d.fact 53 (f := .glo "Malformed") rfl)) hC hD (isB_ok (He.ba c.more).2)
theorem at_law {w : World} {K : PySem.W.Frag} {h : Heap} {mg : Str → Option Value} {fA : Addr} (hl : ∀ ns : List Int, ns.length ≤ 63 → (∀ z ∈ ns, Builtin.Int.intBits z ≤ 1048576) → F_law [.list (ns.map .int)] = .ok (.val (.bool true)))
    (KX : K.In h) (G : h.Ns mainGlobals mg) (hlaw : mg ("law" : Str) = some (.ref fA)) (c : He.SaysX hfa hfn [] htf hex w h K) : LamX.LawAtS PySem.Challenge.rw_slideclear_k06_whole_clear_places_and_wa w K C8.CX0 18 63 "script" mg fA h := by
  obtain ⟨fd, Fn⟩ := c.t.d.def_ 31 (d := d_law) rfl
  have g := He.glo_ok KX G (c.t.d.fact 31 (f := .glo "law") rfl)
  have e := hlaw.symm.trans g
  cases e
  have b := FunD.bindsA (ps := ["script"]) Fn fun _ _ _ _ _ _ us hl => match us, hl with | [_], _ => rfl
  exact law_at KX c (fun s v => b s [v] rfl) hl fun base h1 h2 hT => ok_law (tx KX G c hT) (c := He.codeOf K ("law", none)) (Pt := 0) (defC_of Fn g)
end Sd.K06
open PySem PySem.W PySem.Calls PyProof.Rows
theorem holds_of (hl : ∀ ns : List Int, ns.length ≤ 63 → (∀ z ∈ ns, Builtin.Int.intBits z ≤ 1048576) → Sd.K06.F_law [.list (ns.map .int)] = .ok (.val (.bool true))) : PySem.Challenge.rw_slideclear_k06_whole_clear_places_and_wa.Holds := by
  w_on; o_law
  refine HandSHeadRun.head_any (r := OpenLaw.row PySem.Challenge.rw_slideclear_k06_whole_clear_places_and_wa) (q := view (OpenLaw.row PySem.Challenge.rw_slideclear_k06_whole_clear_places_and_wa).prog [43]) (H := Sd.K06.hk) (ob := Sd.K06.ob) (M := 4000) (loose := Sd.K06.loose) (d := HandSHeadRun.topDef (OpenLaw.row PySem.Challenge.rw_slideclear_k06_whole_clear_places_and_wa).prog 43) (kwd := []) Sd.K06.ob_eq
    (by kernel_rfl) (fun s => by kernel_rfl) Sd.K06.run (by kernel_rfl) (by kernel_rfl) (by kernel_rfl) (by rfl) (by first | assumption | decide +kernel) (by decide +kernel) ⟨rfl, rfl, rfl, rfl, rfl, by decide +kernel⟩ ?hw ?hc
  case hw => w_witness2
  case hc =>
    refine LamX.walk_ofTsE (l := PySem.Challenge.rw_slideclear_k06_whole_clear_places_and_wa) (n := 63) (k := 18) (x := "script") (CX := fun _ => C8.CX0) rfl (by decide) (by kernel_rfl) ⟨rfl, by decide, by decide⟩ ?F (fun _ _ _ _ _ z => z)
    intro w mg fa h Y G hmg0
    obtain ⟨K, KX, c⟩ := Y
    have hmg : mg ("law" : PySem.Str) = some (.ref fa) := by
      have e : (HandSHeadRun.topDef (OpenLaw.row PySem.Challenge.rw_slideclear_k06_whole_clear_places_and_wa).prog 43).name = ("law" : PySem.Str) := by kernel_rfl
      rw [← e]
      exact hmg0
    exact ⟨K, KX, Sd.K06.at_law hl KX G hmg c⟩
set_option Elab.async false
set_option linter.all false
set_option maxRecDepth 100000
set_option maxHeartbeats 4000000
set_option autoImplicit false
namespace Sd.K06
open PySem PySem.Spec PyProof.Rows L2 C8 Sd PySem.W

theorem runD {DR : Fn} {d : D} {ds : List Int} {x1 x2 x3 x4 x5 x6 x7 x8 x9 x10 x11 x12 x13 x14 x15 x16 x17 x18 x19 x20 x21 x22 x23 : Option Sl} (h : DR [d] = .ok (.own (oI ds))) : a1 DR [some (.val d), x1, x2, x3, x4, x5, x6, x7, x8, x9, x10, x11, x12, x13, x14, x15, x16, x17, x18, x19, x20, x21, x22, x23] = .nx [some (.val d), some (.own (oI ds)), x2, x3, x4, x5, x6, x7, x8, x9, x10, x11, x12, x13, x14, x15, x16, x17, x18, x19, x20, x21, x22, x23] := by
  unfold a1
  simp only [mSet_ap, sCall_ap, aC_ap, aN_ap, sVar_ap, List.getElem?_cons_zero, Res.bind_ok, frz_val, h, Res.out_ok, List.set]
theorem law_ok (ns : List Int) (hl : ns.length ≤ 63) : F_law [.list (ns.map .int)] = .ok (.val (.bool true)) := by
  obtain ⟨ds, hd⟩ := draws_ok ns hl
  have rD := runD (x1 := none) (x2 := none) (x3 := none) (x4 := none) (x5 := none) (x6 := none) (x7 := none) (x8 := none) (x9 := none) (x10 := none) (x11 := none) (x12 := none) (x13 := none) (x14 := none) (x15 := none) (x16 := none) (x17 := none) (x18 := none) (x19 := none) (x20 := none) (x21 := none) (x22 := none) (x23 := none) hd
  have st0 : St (some (.val (.list (ns.map .int)))) [some (.val (.list (ns.map .int))), some (.own (oI ds)), none, none, none, none, none, none, none, none, none, none, none, none, none, none, none, none, none, none, none, none, none, none] :=
    ⟨ds, none, none, none, none, none, none, none, none, none, none, none, none, none, none, none, none, none, none, rfl, rfl, rfl, rfl⟩
  obtain ⟨ρ', hf, hst⟩ := forItems_map (t := .nm 2) (body := mab28) eN (I := fun _ ρ => St (some (.val (.list (ns.map .int)))) ρ) (items := List.range 5) st0 (fun a _ ρ h => turn_ok a h)
  have rg : ∀ ρ : Ev, sRange1 (aC (sC (.int 5)) aN) ρ = .ok ((List.range 5).map eN) ρ := fun ρ => sRange1_n (n := 5) (by simp) (by omega)
  rw [law_is]
  refine ofBody_rt (ρ := ρ') ?_
  simp only [List.map_cons, List.map_nil, List.replicate, List.cons_append, List.nil_append]
  unfold ma30
  rw [mSeq_ap, rD, Out.seq_nx, mSeq_ap, mFor_ap, rg, Res.out_ok, hf, Out.seq_nx]
  unfold a29
  rw [mRet_ap, sC_ap]
  rfl
end Sd.K06
theorem k06_holds : PySem.Challenge.rw_slideclear_k06_whole_clear_places_and_wa.Holds := holds_of fun ns h _ => Sd.K06.law_ok ns h
theorem PySem.Challenge.cw_slideclear_k06_whole_clear_places_and_wa_holds : PySem.Challenge.rw_slideclear_k06_whole_clear_places_and_wa.Holds := by
  exact k06_holds
